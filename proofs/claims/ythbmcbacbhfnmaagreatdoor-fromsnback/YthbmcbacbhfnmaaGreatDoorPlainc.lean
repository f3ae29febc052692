/- Part of FromsnBack: the law returns true; no condition. -/
import Derived.Test.YthbmcbacbhfnmaaGreatDoorTpTopE
import Derived.Test.YthbmcbacbhfnmaaGreatDoorPlainb
import Derived.Test.YthbmcbacbhfnmaaGreatDoorPlain
set_option linter.all false
open Go.IntKind (wrap)
namespace Go.Av
noncomputable section
set_option maxHeartbeats 4000000
open Tp
theorem Q4g (x:Int):∀ (l:List RTp) (n:Nat),(Q50 x n l=none∧x ∉ l.map (·.1))∨∃ i v,Q50 x n l=some (i,v)∧n≤i∧l[i - n]? = some (x,v)
 | [],n => .inl ⟨rfl,by simp⟩
 | (k,v)::l,n=>by
  simp only [Q50]
  by_cases h:x=k
  ·grind
  rw [Ae h]
  rcases Q4g x l (n+1) with ⟨h1,h2⟩ | ⟨i,w,h1,h2,h3⟩
  ·simp_all
  grind
theorem Q35 (x:List UInt8):∀ (l:List (List UInt8×Int)) (n:Nat),(Q8g x n l=none∧x ∉ l.map (·.1))∨∃ i v,Q8g x n l=some (i,v)∧n≤i∧l[i - n]? = some (x,v)
 | [],n => .inl ⟨rfl,by simp⟩
 | (k,v)::l,n=>by
  simp only [Q8g]
  by_cases h:x=k
  ·grind
  rw [Ae h]
  rcases Q35 x l (n+1) with ⟨h1,h2⟩ | ⟨i,w,h1,h2,h3⟩
  ·simp_all
  grind
theorem Qbo (x:List UInt8):∀ (l:Reg) (n:Nat),(Vk x n l=none∧x ∉ l.map (·.1))∨∃ i v,Vk x n l=some (i,v)∧n≤i∧l[i - n]? = some (x,v)
 | [],n => .inl ⟨rfl,by simp⟩
 | (k,v)::l,n=>by
  simp only [Vk]
  by_cases h:x=k
  ·grind
  rw [Ae h]
  rcases Qbo x l (n+1) with ⟨h1,h2⟩ | ⟨i,w,h1,h2,h3⟩
  ·simp_all
  grind
structure CI (m:Nat) (C:RCl):Prop where
 ids:C.ids=C.all.map fun q=>(q.2.1,q.1)
 nd:(C.all.map (·.1)).Nodup
 nn:(C.all.map (·.2.1)).Nodup
 rng:∀ q∈C.all,1≤q.1∧q.1≤65534
 low:∀ k:Int,1≤k->k<C.next->k∈C.all.map (·.1)
 wc:WC C
 len:C.all.length≤m
theorem CI.mono {m m':Nat} (h:m≤m') {C:RCl} (c:CI m C):CI m' C:=⟨c.ids,c.nd,c.nn,c.rng,c.low,c.wc,Ma c.len h⟩
theorem Z2r {C:RCl} {m:Nat} (h:CI m C) (n:List UInt8):n ∉ C.ids.map (·.1)↔n ∉ C.all.map (·.2.1):=by
 rw [h.ids,Mr];rfl
theorem CI.add {m:Nat} {C:RCl} (h:CI m C) {n:List UInt8} {id nx:Int} {b:Bool} (hn:n ∉ C.ids.map (·.1)) (hid:id ∉ C.all.map (·.1)) (hr:1≤id∧id≤65534) (hnx:1≤nx∧nx≤65535) (hl:∀ k:Int,1≤k->k<nx->k=id∨k∈C.all.map (·.1)) :
  CI (m+1) ⟨C.ids ++ [(n,id)],C.all ++ [(id,n,b)],C.back,nx⟩:=by
 refine ⟨by simp [h.ids],?_,?_,?_,?_,⟨h.wc.1,hnx⟩,by have:=h.len;simp_all⟩
 ·simp only [Bc,Bf];exact ⟨h.nd,by simp,fun a ha c hc=>by grind⟩
 ·simp only [Bc,Bf];exact ⟨h.nn,by simp,fun a ha c hc=>by grind [Z2r]⟩
 ·intro q hq
  rcases Bb.1 hq with h1 | h1
  ·exact h.rng q h1
  simp_all
 grind
theorem Qcl (all:List RTp):∀ (N:Nat) (s id nx:Int),Q7y all N s=some (id,nx)->id≠0->s≤id∧id≤65534∧nx=id+1∧id ∉ all.map (·.1)∧∀ k,s≤k->k<id->k∈all.map (·.1)
 | 0,s,id,nx,h,_=>by cases h
 | N+1,s,id,nx,h,h0=>by
  simp only [Q7y] at h;split at h
  ·split at h
   ·rename_i h1 h2
    rcases Q4g s all 0 with ⟨e,hm⟩ | ⟨i,v,e,_,hv⟩
    ·grind
    rw [e] at h;obtain ⟨g1,g2,g3,g4,g5⟩:=Qcl all N (s+1) id nx h h0
    grind
   simp_all
  simp_all
theorem Qco (all:List RTp):∀ (N:Nat) (s nx:Int),1≤s->s≤65535->Q7y all N s=some (0,nx)->(65534<nx∧nx≤65535)∧s≤nx∧∀ k,s≤k->k<nx->k∈all.map (·.1)
 | 0,s,nx,_,_,h=>by cases h
 | N+1,s,nx,h1,h3,h=>by
  simp only [Q7y,Af h1] at h;split at h
  ·rcases Q4g s all 0 with ⟨e,hm⟩ | ⟨i,v,e,_,hv⟩
   ·simp_all
   rw [e] at h;obtain ⟨g1,g0,g2⟩:=Qco all N (s+1) nx (by omega) (by omega) h
   grind
  grind
theorem Z3o {m:Nat} {C:Option RCl} (h:∀ D,C=some D->CI m D) (n:List UInt8):CI (m+1) (Qoe C n).2:=by
 cases C with
 | none=>
  refine ⟨rfl,iE,iE,fun q hq=>by simp_all [Qoe],fun k h1 h2=>?_,⟨rfl,iE,iE⟩,iE⟩
  grind [Qoe]
 | some C=>
  have hc:=h C rfl;unfold Qoe;simp only []
  rcases Q35 n C.ids 0 with ⟨e,hn⟩ | ⟨i,v,e,_,hv⟩
  ·rw [e]
   obtain ⟨id,nx,hl,h4,h5,_⟩:=Qbt C.all 65536 C.next hc.wc.2.1 hc.wc.2.2 (by have:=hc.wc.2.1;omega)
   simp only [hl];split
   ·rename_i h0;subst h0;obtain ⟨g1,g0,g2⟩:=Qco C.all _ _ _ hc.wc.2.1 hc.wc.2.2 hl
    exact ⟨hc.ids,hc.nd,hc.nn,hc.rng,fun k a b=>by
     by_cases hk:k<C.next
     ·exact hc.low k a hk
     simp_all,⟨rfl,h4,h5⟩,Nat.le_succ_of_le hc.len⟩
   rename_i h0;obtain ⟨g1,g2,g3,g4,g5⟩:=Qcl C.all _ _ _ _ hl h0
   have:=hc.add (b:=false) hn g4 ⟨by omega,g2⟩ (nx:=nx) ⟨h4,h5⟩ (fun k a b=>by
    by_cases hk:k=id
    ·omega
    by_cases hk2:k<C.next
    ·exact .inr (hc.low k a hk2)
    grind)
   rw [hc.wc.1] at this;omega
  rw [e];exact hc.mono (Nb _)
theorem Z4i {m:Nat} {C:Option RCl} (h:∀ D,C=some D->CI m D) (n:List UInt8) {id:Int} (hi:1≤id∧id≤65534):CI (m+1) (Qnc C n id).2:=by
 cases C with
 | none=>
  refine ⟨rfl,iD,iD,fun q hq=>by simp_all [Qnc],fun k h1 h2=>?_,⟨rfl,iD,iD⟩,iD⟩
  grind [Qnc]
 | some C=>
  have hc:=h C rfl;unfold Qnc;simp only []
  rcases Q4g id C.all 0 with ⟨e,hid⟩ | ⟨i,v,e,_,hv⟩
  ·rw [e];simp only []
   rcases Q35 n C.ids 0 with ⟨e2,hn⟩ | ⟨i,v,e2,_,hv⟩
   ·rw [e2];exact hc.add hn hid hi ⟨hc.wc.2.1,hc.wc.2.2⟩ fun k a b => .inr (hc.low k a b)
   rw [e2];exact hc.mono (Nb _)
  rw [e];simp only []
  split<;>exact hc.mono (Nb _)
structure RI (m:Nat) (R:Reg):Prop where
 keys:(R.map (·.1)).Nodup
 cl:∀ q∈R,CI m q.2
theorem RI.get {m:Nat} {R:Reg} (h:RI m R) {c:List UInt8} {C:RCl} (hc:Q47 R c=some C):CI m C:=by
 unfold Q47 at hc
 cases hf:Vk c 0 R with
 | none=>simp_all
 | some x=>
  rw [hf] at hc;obtain ⟨i,D⟩:=x;cases hc;exact h.cl _ (Qhq hf)
theorem Z1i (R:Reg) (i:Nat) (c:List UInt8) (C D:RCl) (h:R[i]? = some (c,D)):(R.set i (c,C)).map (·.1)=R.map (·.1):=by
 apply Lw
 grind
theorem RI.set {m:Nat} {R:Reg} (h:RI m R) (c:List UInt8) {C:RCl} (hc:CI m C):RI m (Z02 R c C):=by
 unfold Z02
 rcases Qbo c R 0 with ⟨e,hn⟩ | ⟨i,v,e,_,hv⟩
 ·rw [e];refine ⟨?_,fun q hq=>?_⟩
  ·simp only [Bc,Bf];exact ⟨h.keys,by simp,fun a ha b hb=>by grind⟩
  rcases Bb.1 hq with h1 | h1
  ·exact h.cl q h1
  simp_all
 rw [e];refine ⟨?_,fun q hq=>?_⟩
 ·simp only [];rw [Z1i R i c C v (by omega)];exact h.keys
 rcases Bd hq with h1 | h1
 ·exact h.cl q h1
 simp_all
theorem RI.mono {m m':Nat} (h:m≤m') {R:Reg} (r:RI m R):RI m' R:=⟨r.keys,fun q hq=>(r.cl q hq).mono h⟩
theorem RI.step {m:Nat} (ok:List UInt8->Bool) {R:Reg} (h:RI m R) (t:List UInt8×List UInt8×Int):RI (m+1) (Z86 ok R t):=by
 unfold Z86;split
 ·unfold Qil;split
  ·exact (h.mono (Nb m)).set _ (Z3o (fun D hD=>h.get hD) _)
  exact h.mono (Nb m)
 unfold Qjm;split
 ·split
  ·rename_i hi;exact (h.mono (Nb m)).set _ (Z4i (fun D hD=>h.get hD) _ hi)
  exact h.mono (Nb m)
 exact h.mono (Nb m)
theorem Q5y (R:Reg) (c:List UInt8):Qm6 R c=match Q47 R c with | none => [] | some C=>C.all:=by
 grind [Qm6,Q47]
theorem RI.okAll {m:Nat} {R:Reg} (h:RI m R) (hm:m≤1000000000) (c:List UInt8):okAll R c=true:=by
 unfold Tp.okAll;rw [Q5y]
 cases hc:Q47 R c with
 | none=>rfl
 | some C=>exact Ad ⟨Ma (h.get hc).len hm,(h.get hc).nd⟩
end
end Go.Av
namespace Go.Av
noncomputable section
theorem Z0h (n:Int) (h:0≤n∧n<18446744073709551616) (w:Nat) (hw:w≤8):Tot (fun N=>Z2 N (wrap .u64 n) (w:Int)) (Q4k n.toNat w):=by
 refine ⟨11,fun N hN=>?_⟩;have:=Qmt N n.toNat w (by omega) hw (by omega)
 rwa [show ((n.toNat:Nat):Int)=wrap .u64 n by rw [Z49 (by omega)];omega] at this
set_option maxRecDepth 20000 in
theorem bN {x:Bool} (h:(!x)=true):x=false:=by cases x;rfl;cases h
theorem bP {x:Bool} (h:(!x)=false):x=true:=by cases x;cases h;rfl
def vb (n:Nat):List UInt8:=if n<128 then [UInt8.ofNat n] else UInt8.ofNat (n % 128+128)::vb (n / 128)
termination_by n
decreasing_by omega
end
end Go.Av
namespace Go.Av
noncomputable section
class Kd (k:Int):Prop where
 lo:1≤k
 hi:k≤16
section
variable {k:Int} [hk:Kd k]
end
end
end Go.Av
namespace Go.Av
noncomputable section
set_option maxRecDepth 20000 in
structure FitV (sh:Int) (p:Z5):Prop where
 num:sh≤4->0≤p.N'∧p.N'≤4294967295
 var:sh=4->p.N'≤268435455
 txt:p.Text.length≤65535
 val:p.Value.length≤65535
section
variable {k:Int} [hk:Kd k]
end
end
end Go.Av
namespace Go.Av
noncomputable section
section
variable {k:Int} [hk:Kd k]
set_option maxRecDepth 20000 in
end
end
end Go.Av
namespace Go.Av
noncomputable section
section
variable {k:Int} [hk:Kd k]
end
end
end Go.Av
namespace Go.Av
noncomputable section
end
end Go.Av
namespace Go.Av
noncomputable section
open Classical in
section
variable {p:Zj} (h:Qnq p)
include h
end
end
end Go.Av
namespace Go.Av
noncomputable section
section
variable {k:Int} [hk:Kd k]
end
theorem Z7t (c:Int) (h:0≤c∧c<256) : [UInt8.ofNat (wrap .u8 c).toNat]=Q4k c.toNat 1:=by
 show _ = [UInt8.ofNat (c.toNat % 256)];rw [Z9x]
 congr 2
 omega
section
variable {p:Zj} (h:Qnq p)
include h
end
end
end Go.Av
namespace Go.Av
noncomputable section
def Z3w (v k:Int):Prop:=k=12∨k=13∨(k=14∧v=4)
instance (v k:Int):Decidable (Z3w v k):=by unfold Z3w;infer_instance
def Zn0 (v k:Int):Prop:=(v=4∨v=5)∧12≤k∧k≤15
instance (v k:Int):Decidable (Zn0 v k):=by unfold Zn0;infer_instance
section
variable {v:Int} {p:Zj} (h:Qnq p)
end
end
end Go.Av
namespace Go.Av
noncomputable section
section
variable {v:Int} {p:Zj} (h:Qnq p)
include h
end
end
end Go.Av
namespace Go.Av
noncomputable section
open Classical in
section
variable {v:Int} {p:Zj} (h:Qnq p)
include h
end
end
end Go.Av
namespace Go.Av
noncomputable section
end
end Go.Av
namespace Go.Av
noncomputable section
section
variable {v:Int} {p:Zj} (h:Qnq p)
include h
end
end
end Go.Av
namespace Go.Av
noncomputable section
def Znt (p:Zj):Prop:=(0≤p.QoS∧p.QoS≤2)∧(p.QoS=0->p.Dup=false)
instance (p:Zj):Decidable (Znt p):=by unfold Znt;infer_instance
open Classical in
instance:Kd 3:=⟨by decide,by decide⟩
section
variable {v:Int} {p:Zj} (h:Qnq p)
end
end
end Go.Av
namespace Go.Av
noncomputable section
section
variable {v:Int} {p:Zj} (h:Qnq p)
include h
end
end
end Go.Av
namespace Go.Av
noncomputable section
set_option maxHeartbeats 4000000
def Gb:List UInt8->List (List UInt8)
 | [] => [[]]
 | c::s=>if c == 47 then []::Gb s else match Gb s with
  | [] => [[c]]
  | a::r=>(c::a)::r
theorem Q7r:∀ s:List UInt8,∃ a r,Gb s=a::r
 | []=>⟨[],[],rfl⟩
 | c::s=>by
  grind [Gb]
theorem Qhe (s:List UInt8):Gb (47::s) = []::Gb s:=rfl
theorem Qe2 {c:UInt8} (h:(c == 47)=false) {s a:List UInt8} {r:List (List UInt8)} (e:Gb s=a::r):Gb (c::s)=(c::a)::r:=by
 simp_all [Gb]
theorem Qgn:∀ (l:List UInt8) (c:UInt8) (n:Nat),Qao l c n=n+Qao l c 0
 | [],_,n=>rfl
 | b::l,c,n=>by
  have e:∀ m,Qao (b::l) c m=if (b == c)=true then Qao l c (m+1) else Qao l c m:=fun m=>rfl;rw [e n,e 0];split
  ·rw [Qgn l c (n+1),Qgn l c (0+1)];omega
  rw [Qgn l c n]
theorem Qek:∀ s:List UInt8,(Gb s).length=Qao s 47 0+1
 | []=>rfl
 | c::s=>by
  have ih:=Qek s;have e:Qao (c::s) 47 0=if (c == 47)=true then Qao s 47 (0+1) else Qao s 47 0:=rfl;rw [e]
  cases h:(c == 47) with
  | true=>
   grind [Qgn,Qhe]
  | false=>
   rw [Ae (by decide)];obtain ⟨a,r,e⟩:=Q7r s;rw [Qe2 h e,Mj]
   simp_all
theorem Qhw:∀ (t:List UInt8) (i k:Nat),Qk4 t 47 i=((i+k:Nat):Int)->Gb t=t.take k::Gb (t.drop (k+1))∧k<t.length∧t=t.take k++47::t.drop (k+1)
 | [],i,k,h=>absurd (show (-1:Int)=_ from h) (by omega)
 | c::t,i,k,h=>by
  have e:Qk4 (c::t) 47 i=if (c == 47)=true then (i:Int) else Qk4 t 47 (i+1):=rfl;rw [e] at h
  cases hc:(c == 47) with
  | true=>
   rw [hc,Af rfl] at h
   obtain rfl:k=0:=by omega
   rw [eq_of_beq hc];exact ⟨rfl,by simp,rfl⟩
  | false=>
   rw [hc,Ae (by decide)] at h
   rcases Qmk t 47 (i+1) with h1 | ⟨j,h1,h2,_⟩
   ·omega
   obtain ⟨m,rfl⟩:∃ m,k=m+1:=⟨k - 1,by omega⟩;obtain ⟨i1,i2,i3⟩:=Qhw t (i+1) m (by omega)
   grind [Qe2]
theorem Qee:∀ (t:List UInt8) (i:Nat),Qk4 t 47 i = -1->Gb t = [t]
 | [],_,_=>rfl
 | c::t,i,h=>by
  have e:Qk4 (c::t) 47 i=if (c == 47)=true then (i:Int) else Qk4 t 47 (i+1):=rfl;rw [e] at h
  cases hc:(c == 47) with
  | true=>simp_all
  | false=>
   rw [hc,Ae (by decide)] at h;exact Qe2 hc (Qee t (i+1) h)
theorem Qkg:∀ (s:List UInt8),∀ x∈Gb s,x.length≤s.length
 | [],x,hx=>by
  simp_all [Gb]
 | c::s,x,hx=>by
  have ih:=Qkg s
  cases hc:(c == 47) with
  | true=>
   grind [Qhe]
  | false=>
   obtain ⟨a,r,e⟩:=Q7r s;rw [Qe2 hc e] at hx
   grind
def Zcx (s:List UInt8) (c:Nat) (p:List UInt8×Int×List (List UInt8)):Prop:=∃ i:Nat,p.2.1=(i:Int)∧i≤c∧p.2.2.length=c+1∧p.2.2.take i++Gb p.1=Gb s∧p.1.length≤s.length
theorem Z7k (s:List UInt8) (hs:s.length≤70000):Tot (fun N=>Q3q N s) (Gb s):=by
 refine Aw ?_;unfold Q3q;refine Az (fun h=>by simp_all [Q08]) (fun _=>?_);have h47:UInt8.ofNat (Int.toNat 47)=47:=rfl;rw [h47];obtain ⟨c,hcd⟩:∃ c,Qao s 47 0=c:=⟨_,rfl⟩;have hc:=Qln s 47 0;have hsl:=Qek s;rw [hcd] at hc hsl ⊢;have e1:wrap .i64 ((s.length:Int)+1)=(s.length:Int)+1:=w64 _ (by omega);have e2:wrap .i64 ((c:Int)+1)=(c:Int)+1:=w64 _ (by omega)
 have hn:(ifB (decide (wrap .i64 ((s.length:Int)+1)<wrap .i64 ((c:Int)+1))) (wrap .i64 ((s.length:Int)+1)) (wrap .i64 ((c:Int)+1)))=((c+1:Nat):Int):=by
  rw [e1,e2,Ab (by omega)];show (c:Int)+1=_;omega
 have hm:wrap .i64 (((c+1:Nat):Int) - 1)=(c:Int):=bS
 rw [hn];refine AA (by grind) ?_;refine Qar (L:=Zbc s) (Q:=(· = Gb s)) (Zcx s c) (fun p=>c - p.2.1.toNat) ?_ (s,0,List.replicate (((c+1:Nat):Int).toNat) []) ⟨0,rfl,by omega,by simp,rfl,Lh _⟩
 rintro ⟨t,j,l⟩ ⟨i,hi,hic,hl,hx,ht⟩
 simp only at ht hi hl hx
 subst hi
 have ei:wrap .i64 ((i:Int)+1)=((i+1:Nat):Int):=bS
 have hlen:i+(Gb t).length=c+1:=by grind
 have fin:Gb t = [t]->Stp (Zbc s) (fun p=>Zcx s c p∧c - p.2.1.toNat<c - (i:Int).toNat) (· = Gb s)
   (fun (_:Nat) (_:Nat)=>(idx (l:List (List UInt8)) (i:Int)).bind fun _=>cond (decide (0≤(wrap .i64 ((i:Int)+1)))) (cond (Nat.ble 0 ((wrap .i64 ((i:Int)+1)).toNat)&&Nat.ble ((wrap .i64 ((i:Int)+1)).toNat) l.length) (some ((((l:List (List UInt8)).set (Int.toNat (i:Int)) t):List (List UInt8)).take ((wrap .i64 ((i:Int)+1)).toNat))) none) none):=fun e=>by
  rw [ei];refine AF (Z0 (show i<l.length by omega)) ?_;refine AH (by rw [Ag];omega) ?_<;>simp_all [AH,AC,List.take_add_one,List.take_set,List.set_eq_of_length_le]
 show Stp _ _ _ (fun N n=>cond (Q0 .lss (i:Int) (wrap .i64 ((ifB (decide (wrap .i64 ((s.length:Int)+1)<wrap .i64 ((Qao s (UInt8.ofNat (Int.toNat 47)) 0:Int)+1))) (wrap .i64 ((s.length:Int)+1)) (wrap .i64 ((Qao s (UInt8.ofNat (Int.toNat 47)) 0:Int)+1))) - 1))) _ _);rw [h47,hcd,hn,hm,Qn];refine AG (fun h=>?_) (fun h=>?_)
 rotate_left
 ·have h:=Ac h;refine fin ?_
  rcases Qmk t 47 0 with h3 | ⟨k,h3,_,h4⟩
  ·exact Qee t 0 h3
  have:=(Qhw t 0 k (by omega)).1;obtain ⟨a,r,e⟩:=Q7r (t.drop (k+1))<;>grind
 have h:=Aa h
 have go:∀ (t' y:List UInt8),Gb t=y::Gb t'->t'.length≤t.length->Stp (Zbc s) (fun p=>Zcx s c p∧c - p.2.1.toNat<c - (i:Int).toNat) (· = Gb s) (fun N n=>U0 N s n t' (wrap .i64 ((i:Int)+1)) (l.set (Int.toNat (i:Int)) y)):=fun t' y h1 h2=>by
  rw [ei];refine AD (L:=Zbc s) (t',((i+1:Nat):Int),l.set (Int.toNat (i:Int)) y) ⟨⟨i+1,rfl,by omega,by simp_all,?_,Ma h2 ht⟩,by grind⟩
  grind [Int.toNat_natCast,List.take_add_one,List.take_set]
 refine AG (fun h2=>?_) (fun _=>?_)
 ·rw [Q08] at h2;have h2:=Aa h2;refine AF (Z0 (show i<l.length by omega)) ?_;refine AH (by rw [← h2];rfl) ?_;refine go _ _ ?_ (by simp);subst h2;rfl
 refine AE (f:=fun N=>Yo N t 47) (V:=fun v=>v=Qk4 t 47 0) ⟨_,rfl,.of fun _=>rfl⟩ (fun v hv=>?_);rw [Qn]
 rcases Qmk t 47 0 with h3 | ⟨k,h3,_,h4⟩
 ·grind [Qee]
 rw [hv,h3,Ab (by omega)];have hk:=Qhw t 0 k (by omega)
 have k0:wrap .i64 ((k:Int)+0)=(k:Int):=bS
 have k1:wrap .i64 ((k:Int)+1)=((k+1:Nat):Int):=bS
 refine AG (fun h=>nomatch h) (fun _=>?_);rw [k0,k1];refine AH (by rfl) ?_;refine AH dH ?_;refine AF (Z0 (show i<l.length by omega)) ?_;refine AH (by rfl) ?_;refine AH dH ?_;refine go _ _ ?_ (by simp)
 grind [Int.toNat_natCast]
def Zbl (a:List UInt8):List (List UInt8)->List (List UInt8)
 | [] => [a]
 | x::r=>(a++x)::r
theorem Z55 (s:List UInt8) (hs:s.length≤70000):Tot (fun N=>J5 N s) (Gb s):=by
 refine Aw ?_;unfold J5
 refine Qar (L:=fun N n (q:Int×Int×List (List UInt8))=>Y3 N s n q.1 q.2.1 q.2.2) (Q:=(· = Gb s)) (fun q=>∃ f i:Nat,q.1=(f:Int)∧q.2.1=(i:Int)∧f≤i∧i≤s.length∧q.2.2.length≤i∧q.2.2++Zbl ((s.take i).drop f) (Gb (s.drop i))=Gb s) (fun q=>s.length - q.2.1.toNat) ?_ (0,0,[]) ⟨0,0,rfl,rfl,Lh _,Lk _,Lk _,by
  obtain ⟨a,r,e⟩:=Q7r s<;>simp_all [Zbl]⟩
 rintro ⟨f',i',l⟩ ⟨f,i,h1,h2,hf,hi,hll,hx⟩
 simp only at h1 h2 hll hx
 subst h1;subst h2;show Stp _ _ _ (fun N n=>cond (Q0 .lss (i:Int) (s.length:Int)) _ _);rw [Qn];refine AG (fun g=>?_) (fun g=>?_)
 ·have g:i<s.length:=by simp_all
  have ei:wrap .i64 ((i:Int)+1)=((i+1:Nat):Int):=bS
  have hd:s.drop i=s[i]::s.drop (i+1):=Lz g
  have hti:(s.take (i+1)).drop f=(s.take i).drop f ++ [s[i]]:=by grind
  refine AF (Z0 g) ?_;dsimp only;rw [Qx,ei];refine AG (fun h=>?_) (fun h=>?_)
  ·have h:s[i].toNat=47:=by grind
   have hb:s[i]=47:=UInt8.toNat_inj.1 h;refine AH (Ad (by omega)) ?_;refine AH (Ad (by omega)) ?_;rw [Nn,Nn];refine AH (by simp_all) ?_;refine AH bT ?_;refine AD (L:=fun N n (q:Int×Int×List (List UInt8))=>Y3 N s n q.1 q.2.1 q.2.2) (_,_,_) ⟨⟨i+1,i+1,rfl,rfl,Lh _,by omega,by simp_all,?_⟩,by grind⟩;rw [hd,hb,Qhe] at hx;have e0:(s.take (i+1)).drop (i+1) = []:=Bg (by grind);obtain ⟨a,r,e⟩:=Q7r (s.drop (i+1))<;>simp_all [Zbl]
  have h:¬ s[i].toNat=47:=by grind
  have hb:(s[i] == 47)=false:=by
   cases hq:(s[i] == 47) with
   | false=>rfl
   | true=>exact absurd (by rw [eq_of_beq hq];rfl) h
  refine AD (L:=fun N n (q:Int×Int×List (List UInt8))=>Y3 N s n q.1 q.2.1 q.2.2) (_,_,_) ⟨⟨f,i+1,rfl,rfl,by omega,by omega,by grind,?_⟩,by grind⟩
  grind [Zbl,Gb]
 have g:i=s.length:=by grind
 subst g;dsimp only;refine AH (Ad (by omega)) ?_;rw [Nn];refine AH (by simp_all) ?_;refine AH bT (AC ?_);rw [← hx,Mm (Lh _)];show _=l ++ [(s.take s.length).drop f ++ []];simp
end
end Go.Av
namespace Go.Av
noncomputable section
end
end Go.Av
namespace Go.Av
noncomputable section
set_option maxHeartbeats 4000000
def Qpt (x:List UInt8) (e:Bool):Bool:=if x = [43] then true else if x = [35] then e else !(Qud x)
def Qjh:List (List UInt8)->Bool
 | []=>true
 | x::r=>Qpt x r.isEmpty&&Qjh r
theorem Z3s {l:List (List UInt8)} {i:Nat} (hi:i<l.length):Qjh (l.drop i)=(Qpt l[i] (decide (i+1=l.length))&&Qjh (l.drop (i+1))):=by
 grind [List.drop_eq_getElem_cons,Qpt,Qjh]
def Z7h (s:List UInt8):Bool:=decide (s ≠ [])&&Q8z s&&Qjh (Gb s)
theorem Z98 (N:Nat) (x:List UInt8):Q4f N x=some (decide (x = [43])||decide (x = [35])):=by
 grind [Q4f,Q08]
theorem Zcd (l:List (List UInt8)) (h1:l.length≤70001) (h2:∀ x∈l,x.length≤70000):Tot (fun N=>Q3o N l) (Qjh l):=by
 refine Aw ?_;have hm:=ml7;unfold Q3o;refine Q6t (L:=fun N n i=>X2 N l n i) l.length (fun i=>Qjh (l.drop i)=Qjh l) (fun i hi hJ=>?_) (fun hJ=>?_) rfl
 ·have hla:=Z3s hi;rw [hJ] at hla;have hx:=h2 _ (Mc hi);show Stp _ _ _ (fun N n=>cond (Q0 .lss (i:Int) ((Q7 cS l).length:Int)) _ _);rw [Q6,Qn];refine AG (fun _=>?_) (fun h=>by simp_all);refine AF (Z0 hi) ?_
  have ei:wrap .i64 ((i:Int)+1)=((i+1:Nat):Int):=bS
  have go:Qpt l[i] (decide (i+1=l.length))=true->Stp (fun N n i=>X2 N l n i) (fun s=>s=((i+1:Nat):Int)∧Qjh (l.drop (i+1))=Qjh l) (· = Qjh l) (fun N n=>X2 N l n (wrap .i64 ((i:Int)+1))):=fun e=> i6
  have no:Qpt l[i] (decide (i+1=l.length))=false->Stp (fun N n i=>X2 N l n i) (fun s=>s=((i+1:Nat):Int)∧Qjh (l.drop (i+1))=Qjh l) (· = Qjh l) (fun _ _=>some false):=fun e=>AC (by simp_all);have hc:Tot (fun N=>Xr N l[i]) (Qud l[i]):=Qfs _ (by omega);rw [Q08];refine AG (fun g=>?_) (fun g=>?_)
  ·grind [Qpt,Qx,Z98]
  have g:=Ac g;refine AE (V:=(· = decide (l[i] = [43]))) ⟨_,rfl,.of fun N=>by rw [Z98,Ab g,Bool.or_false]⟩ (fun w hw=>?_);subst hw;refine AG (fun g1=>?_) (fun g1=>go ?_)
  ·have g1:=Ac (bN g1)
   have hX:Qpt l[i] (decide (i+1=l.length)) = !(Qud l[i]):=by simp_all [Qpt]
   refine AE (V:=(· = Qud l[i])) ⟨_,rfl,hc⟩ (fun w hw=>?_)
   grind
  simp_all [Qpt]
 exact dw
theorem Qob {s:List UInt8} (hs:s.length≤70000):(Gb s).length≤70001∧∀ x∈Gb s,x.length≤70000:=by
 have:=Qln s 47 0;exact ⟨by rw [Qek];omega,fun x hx=>Ma (Qkg s x hx) hs⟩
theorem Z6v (s:List UInt8) (hs:s.length≤70000):Tot (fun N=>Q0x N s) (Z7h s):=by
 refine Aw ?_;have hb:=Qob hs;unfold Q0x Z7h;refine Ay (Qtq s) ?_;refine Az (fun g=>?_) (fun g => .ret (by simp_all));rw [g];refine Ay (Z7k s hs) ?_;exact Ay (Zcd _ hb.1 hb.2) (.ret rfl)
theorem Z5y (s:List UInt8) (hs:s.length≤70000):Tot (fun N=>Wl N s) (Z7h s):=by
 refine Aw ?_;have hb:=Qob hs;have hm:=ml7;unfold Wl Z7h;rw [Q08];refine Az (fun g => .ret (by simp_all)) (fun g=>?_);rw [Ad (Ac g),Bool.true_and];refine Ay (Qbs s) ?_;refine Az (fun g => .ret (by simp_all)) (fun g=>?_);rw [bP g,Bool.true_and];refine Ay (Z55 s hs) ?_;generalize Gb s=l at hb;obtain ⟨h1,h2⟩:=hb;refine Q6t (L:=fun N n i=>Z3 N l n i) l.length (fun i=>Qjh (l.drop i)=Qjh l) (fun i hi hJ=>?_) (fun hJ=>?_) rfl
 ·have hla:=Z3s hi;rw [hJ] at hla;have hx:=h2 _ (Mc hi);show Stp _ _ _ (fun N n=>cond (Q0 .lss (i:Int) ((Q7 cS l).length:Int)) _ _);rw [Q6,Qn];refine AG (fun _=>?_) (fun h=>by simp_all)
  have ei:wrap .i64 ((i:Int)+1)=((i+1:Nat):Int):=bS
  have go:Qpt l[i] (decide (i+1=l.length))=true->Stp (fun N n i=>Z3 N l n i) (fun s=>s=((i+1:Nat):Int)∧Qjh (l.drop (i+1))=Qjh l) (· = Qjh l) (fun N n=>Z3 N l n (wrap .i64 ((i:Int)+1))):=fun e=> i6
  have no:Qpt l[i] (decide (i+1=l.length))=false->Stp (fun N n i=>Z3 N l n i) (fun s=>s=((i+1:Nat):Int)∧Qjh (l.drop (i+1))=Qjh l) (· = Qjh l) (fun _ _=>some false):=fun e=>AC (by simp_all);have a43:Tot (fun N=>Xd N l[i] 43) (l[i].any fun b=>b.toNat == 43):=Qlk _ (by omega) 43;have a35:Tot (fun N=>Xd N l[i] 35) (l[i].any fun b=>b.toNat == 35):=Qlk _ (by omega) 35;have hh:=Qxf l[i];refine AF (Z0 hi) ?_;refine AE (V:=(· = l[i].any fun b=>b.toNat == 43)) ⟨_,rfl,a43⟩ (fun w hw=>?_);subst hw;refine AG (fun g43=>?_) (fun g43=>?_)
  ·refine AF (Z0 hi) ?_;rw [Q60];refine AG (fun g=>no ?_) (fun g=>?_)
   ·grind [Qpt]
   have g:l[i] = [43]:=Decidable.byContradiction fun x=>Ac g x
   have hX:Qpt l[i] (decide (i+1=l.length))=true:=by simp_all [Qpt]
   refine AF (Z0 hi) ?_;refine AE (V:=(· = false)) ⟨_,by simp_all,a35⟩ (fun w hw=>?_)
   simp_all
  have n43:l[i] ≠ [43]:=fun x=>by simp_all
  refine AF (Z0 hi) ?_;refine AE (V:=(· = l[i].any fun b=>b.toNat == 35)) ⟨_,rfl,a35⟩ (fun w hw=>?_);subst hw;refine AG (fun g35=>?_) (fun g35=>go ?_)
  ·refine AF (Z0 hi) ?_<;>grind [Q60,Qpt,Qn]
  have n35:l[i] ≠ [35]:=fun x=>by simp_all
  simp_all [Qpt]
 exact dw
end
end Go.Av
namespace Go.Av
noncomputable section
set_option maxHeartbeats 4000000
def Qvj (k:Int):Bool:=decide ((0≤k∧k≤29∧k≠3∧k≠17∧k≠25)∨k=254)
theorem Z4e (N:Nat) (k:Int):Q2a N k=some (Qvj k):=by
 grind [Q2a,Qvj,Qx,Gm,Uy]
theorem Z3q (N:Nat) (k:Int):X7 N k=some (Qvj k):=by
 grind [X7,Qvj,Qx,Gm,Uy]
def Qnv (f:Qz):Prop:=(-1≤f.QoS∧f.QoS≤2)∧0≤f.Type'∧f.Type'≤2
instance (f:Qz):Decidable (Qnv f):=by unfold Qnv;infer_instance
def Z54 (f:Qz):Int:=(if f.Dup then 128 else 0)+32 * (if f.QoS<0 then 3 else f.QoS)+(if f.Retain then 16 else 0)+(if f.Will then 8 else 0)+(if f.Clean then 4 else 0)+f.Type'
theorem Z45 {f:Qz} (h:Qnv f):0≤Z54 f∧Z54 f≤255:=by
 obtain ⟨⟨h1,h2⟩,h3,h4⟩:=h<;>grind [Z54]
theorem Z5c (N:Nat) (f:Qz):Q0p N f=some (if Qnv f then (Z54 f,0) else (0,7)):=by
 obtain ⟨d,q,r,w,c,t⟩:=f
 by_cases h:Qnv ⟨d,q,r,w,c,t⟩
 ·rw [Af h];obtain ⟨⟨h1,h2⟩,h3,h4⟩:=h
  have hq:q = -1∨q=0∨q=1∨q=2:=by grind
  have ht:t=0∨t=1∨t=2:=by grind
  have e:∀ x,Q0p N x=Q0p 0 x:=fun _=>rfl;rw [e];clear h1 h2 h3 h4
  exact dW
 grind [Qnv,Q0p,Qn,Wc]
theorem Za6 (N:Nat) (f:Qz):Xn N f=some (if Qnv f then (Z54 f,0) else (0,7)):=by
 obtain ⟨d,q,r,w,c,t⟩:=f
 by_cases h:Qnv ⟨d,q,r,w,c,t⟩
 ·rw [Af h];obtain ⟨⟨h1,h2⟩,h3,h4⟩:=h
  have hq:q = -1∨q=0∨q=1∨q=2:=by grind
  have ht:t=0∨t=1∨t=2:=by grind
  have e:∀ x,Xn N x=Xn 0 x:=fun _=>rfl;rw [e];clear h1 h2 h3 h4
  exact dW
 grind [Qnv,Xn,Qn,Wc]
def Qzq (k:Int):Qz:=if k=4 then ⟨false,0,false,true,true,0⟩ else if k=7∨k=26 then ⟨false,1,true,false,false,0⟩ else if k=19 then ⟨false,1,false,false,false,0⟩ else if k=12 then ⟨true,1,true,false,false,1⟩ else if k=18 then ⟨true,1,false,false,false,1⟩ else if k=20 then ⟨false,0,false,false,false,1⟩ else ⟨false,0,false,false,false,0⟩
theorem Zcv (N:Nat) (k:Int):Q4r N k=some (Qzq k):=by
 grind [Q4r,Qzq,Qx]
theorem Zc5 (N:Nat) (k:Int):Gh N k=some (Qzq k):=by
 grind [Gh,Qzq,Qx]
def Qvl (k:Int) (f:Qz):Bool:=decide (Qnv f)&&(((Qzq k).Dup || !f.Dup)&&((decide ((Qzq k).QoS=1)||decide (f.QoS=0))&&(((Qzq k).Retain || !f.Retain)&&(((Qzq k).Will || !f.Will)&&(((Qzq k).Clean || !f.Clean)&&((decide ((Qzq k).Type'=1)||decide (f.Type'=0))&&(decide (f.QoS≥0)||decide (k=12))))))))
theorem cJ {α β:Type} (g : α->β) (b:Bool) (x y : α):cond b (g x) (g y)=g (cond b x y):=by grind
theorem Y2v (N:Nat) (k:Int) (f:Qz):Q68 N k f=some (Qvl k f):=by
 unfold Q68 Qvl;rw [Z5c]
 by_cases h:Qnv f
 rotate_left
 ·rw [Ae h,Ab h];rfl
 rw [Af h,Ad h,Lf];show cond (Q0 .lss f.QoS 0) (Ju N k f (Q0 .neq k 12)) (Ju N k f false)=_;rw [cJ (Ju N k f)];unfold Ju;rw [Zcv,Lf];generalize Qzq k=u;rw [cJ (Q1a N f u)];unfold Q1a;rw [cJ (Q1d N f u _)];unfold Q1d;rw [cJ (Q15 N f u _ _)];unfold Q15;rw [cJ (Q1f N f u _ _ _)];unfold Q1f;rw [cJ (Q1i N f u _ _ _ _)];unfold Q1i;rw [cJ (Q17 N _ _ _ _ _)];unfold Q17
 grind [Qx,Qn,Ym,decide]
theorem Zxt (N:Nat) (k:Int) (f:Qz):Wx N k f=some (Qvl k f):=by
 unfold Wx Qvl
 grind [Zc5,Za6,Qx,Gm]
end
end Go.Av
namespace Go.Av
noncomputable section
set_option maxHeartbeats 4000000
def Qjg (n k:Int):Bool:=decide (n<0)||decide (n≥k)
theorem lkN {α:Type} (b:Bool) (n k:Int) (g:Bool->α):cond b (some (g true)) (cond (decide (n<0)) (some (g true)) (some (g (decide (n≥k)))))=some (g (b||Qjg n k)):=by
 grind [Qjg]
section
variable (N:Nat) (c:Q3) (h:c.do'=2)
include h
theorem Qv8:X8 N c=some ((),⟨2,{ c.m with Gateway:=0 },c.out,c.bad||Qjg c.m.Gateway 256⟩):=by
 unfold X8;rw [h];exact lkN c.bad c.m.Gateway 256 fun b=>((),(⟨2,{ c.m with Gateway:=0 },c.out,b⟩:Q3))
theorem Qwr:Wh N c=some ((),⟨2,{ c.m with Radius:=0 },c.out,c.bad||Qjg c.m.Radius 256⟩):=by
 unfold Wh;rw [h];exact lkN c.bad c.m.Radius 256 fun b=>((),(⟨2,{ c.m with Radius:=0 },c.out,b⟩:Q3))
theorem Z6r:Ya N c=some ((),⟨2,{ c.m with Code:=0 },c.out,c.bad||Qjg c.m.Code 256⟩):=by
 unfold Ya;rw [h];exact lkN c.bad c.m.Code 256 fun b=>((),(⟨2,{ c.m with Code:=0 },c.out,b⟩:Q3))
theorem Qzf:Xv N c=some ((),⟨2,{ c.m with Time:=0 },c.out,c.bad||Qjg c.m.Time 65536⟩):=by
 unfold Xv;rw [h];exact lkN c.bad c.m.Time 65536 fun b=>((),(⟨2,{ c.m with Time:=0 },c.out,b⟩:Q3))
theorem Zau:Y1 N c=some ((),⟨2,{ c.m with TopicID:=0 },c.out,c.bad||Qjg c.m.TopicID 65536⟩):=by
 unfold Y1;rw [h];exact lkN c.bad c.m.TopicID 65536 fun b=>((),(⟨2,{ c.m with TopicID:=0 },c.out,b⟩:Q3))
theorem Z8u:Zd N c=some ((),⟨2,{ c.m with MsgID:=0 },c.out,c.bad||Qjg c.m.MsgID 65536⟩):=by
 unfold Zd;rw [h];exact lkN c.bad c.m.MsgID 65536 fun b=>((),(⟨2,{ c.m with MsgID:=0 },c.out,b⟩:Q3))
theorem Qrf:Xk N c=some ((),⟨2,c.m,c.out,c.bad⟩):=by
 unfold Xk;rw [h];cases hb:c.bad<;>rfl
theorem Qs4:Zb N c=some ((),⟨2,c.m,c.out,c.bad⟩):=by
 unfold Zb;rw [Z5c,Lf];obtain ⟨d,m,o,b⟩:=c
 simp only at h
 subst h;rfl
theorem Qzx:Qm N c=some ((),⟨2,{ c.m with Name := [] },c.out,c.bad⟩):=by
 unfold Qm;rw [h];rfl
theorem Z6l:Xu N c=some ((),⟨2,{ c.m with Data := [] },c.out,c.bad⟩):=by
 unfold Xu;rw [h];rfl
theorem Z5w:Ue N c=some ((),⟨2,{ c.m with Name := [] },c.out,c.bad⟩):=by
 unfold Ue;rw [h,Q08]
 by_cases hn:c.m.Name = []
 ·rw [Ad hn];obtain ⟨d,m,o,b⟩:=c
  simp only at h hn
  subst h;show some ((),(⟨2,m,o,b⟩:Q3))=some ((),⟨2,{ m with Name := [] },o,b⟩);rw [← hn]
 rw [Ab hn,Qs4 N c h,Lf];rfl
theorem Z16:W6 N c=if c.m.Flags.Type'=0 then some ((),⟨2,{ c.m with Name := [] },c.out,c.bad⟩) else some ((),⟨2,{ c.m with TopicID:=0 },c.out,c.bad||Qjg c.m.TopicID 65536⟩):=by
 simp_all [W6,Qzx,Zau]
theorem Qqi:Vd N c=if c.m.Timed=true then some ((),⟨2,{ c.m with Time:=0,Timed:=false },c.out,c.bad||Qjg c.m.Time 65536⟩) else some ((),⟨2,{ c.m with Timed:=false },c.out,c.bad⟩):=by
 unfold Vd;rw [h,Qzf N c h];cases ht:c.m.Timed<;>rfl
end
def Q19 (m:Xl):List Int:=
 if m.Type'=0 then [3,6] else if m.Type'=1 then [4] else if m.Type'=2 then [3,9] else if m.Type'=4 then [1,2,6,9] else if m.Type'=5∨m.Type'=27∨m.Type'=29 then [5] else
 if m.Type'=7∨m.Type'=26 then (if m.Name = [] then [] else [1,9]) else if m.Type'=9∨m.Type'=28 then [10] else if m.Type'=10 then [7,8,9] else if m.Type'=11∨m.Type'=13 then [7,8,5] else
 if m.Type'=12 then [1,7,8,10] else if m.Type'=14∨m.Type'=15∨m.Type'=16∨m.Type'=21 then [8] else if m.Type'=18∨m.Type'=20 then (if m.Flags.Type'=0 then [1,8,9] else [1,8,7]) else
 if m.Type'=19 then [1,7,8,5] else if m.Type'=22 then [9] else if m.Type'=24 then (if m.Timed=true then [6] else []) else []
def Qfq:List Int := [0,1,2,4,5,6,7,8,9,10,11,12,13,14,15,16,18,19,20,21,22,23,24,26,27,28,29]
theorem Z48 {k:Int} (h:Qvj k=true) (h2:k≠254):k∈Qfq:=by
 unfold Qvj at h;have:=Aa h;simp only [Qfq,Lx,Nh,or_false];omega
def Zay (m:Xl):Xl:=⟨m.Type',m.Flags,if 3∈Q19 m then 0 else m.Gateway,if 4∈Q19 m then 0 else m.Radius,if 6∈Q19 m then 0 else m.Time,if m.Type'=24 then false else m.Timed,if 7∈Q19 m then 0 else m.TopicID,if 8∈Q19 m then 0 else m.MsgID,if 5∈Q19 m then 0 else m.Code,if 9∈Q19 m then [] else m.Name,if 10∈Q19 m then [] else m.Data⟩
def bdN (m:Xl):Bool:=(decide (3∈Q19 m)&&Qjg m.Gateway 256)||(decide (4∈Q19 m)&&Qjg m.Radius 256)||(decide (6∈Q19 m)&&Qjg m.Time 65536)||(decide (7∈Q19 m)&&Qjg m.TopicID 65536)||(decide (8∈Q19 m)&&Qjg m.MsgID 65536)||(decide (5∈Q19 m)&&Qjg m.Code 256)
theorem Qnk (m:Xl) (hk:m.Type'∈Qfq):Tot (fun N=>Z1 N ⟨2,m,[],false⟩) ((),⟨2,Zay m,[],bdN m⟩):=by
 refine ⟨1,fun N hN=>?_⟩;obtain ⟨M,rfl⟩:∃ M,N=M+1:=⟨N - 1,by omega⟩;obtain ⟨t,f,g,r,ti,td,tp,mi,co,nm,da⟩:=m;simp only [Qfq,Lx,Nh,or_false] at hk
 rcases hk with rfl | rfl | rfl | rfl | rfl | rfl | rfl | rfl | rfl | rfl | rfl | rfl | rfl | rfl | rfl | rfl | rfl | rfl | rfl | rfl | rfl | rfl | rfl | rfl | rfl | rfl | rfl
 all_goals simp [Z1,Qx,Qv8,Qwr,Z6r,Qzf,Zau,Z8u,Qrf,Qs4,Qzx,Z6l,Z5w,Z16,Qqi,Vo,Zay,bdN,Q19]
 all_goals grind [Bool.or_comm]
end
end Go.Av
namespace Go.Av
noncomputable section
set_option maxHeartbeats 4000000
theorem Z47 (N:Nat) (l:List Int) (p:Int) (hl:l.length≤100):∀ (k i:Nat),i≤l.length->l.length<k+i->Xj N l p k (i:Int)=some (decide (p∈l.drop i))
 | 0,i,h1,h2=>by omega
 | k+1,i,h1,h2=>by
  rw [Xj,Q6,Qn]
  by_cases hi:i<l.length
  ·rw [Ad (show (i:Int)<(l.length:Int) by omega)];show (idx l (i:Int)).bind _=_;rw [show idx l (i:Int)=some l[i] from by show l[i]? = _;simp,Lf,Qx,Lz hi]
   by_cases e:l[i]=p
   ·simp_all
   rw [Ab e];show Xj N l p k (wrap .i64 ((i:Int)+1))=_;rw [IntKind.wrap_i64,show ((i:Int)+1+9223372036854775808) % 18446744073709551616 - 9223372036854775808=((i+1:Nat):Int) by omega,Z47 N l p hl k (i+1) (by omega) (by omega)]
   grind
  grind
theorem Zs2 {N:Nat} (hN:100<N) {l:List Int} (p:Int) (hl:l.length≤100):Y0 N l p=some (decide (p∈l)):=Z47 N l p hl N 0 (by omega) (by omega)
def Qkf (n most:Int) (u:Bool):Bool:=decide (n≥0)&&(decide (n≤most)&&(u||decide (n=0)))
theorem Zda (N:Nat) (n most:Int) (u:Bool):Yy N n most u=some (Qkf n most u):=by
 grind [Yy,Qkf,Gm,Uy,Qx]
def Z89 (m:Xl):Bool:=decide (m.Type'=11∨m.Type'=13∨m.Type'=19)
def Zaw (m:Xl):Bool:=decide (m.Type'=12)&&decide (m.Flags.QoS<1)
def Qvi (m:Xl):Bool := !(decide (8∈Q19 m)&&(!Z89 m && !(decide (m.MsgID=0) == Zaw m)))&&(Qkf m.Gateway 255 (decide (3∈Q19 m))&&(Qkf m.Radius 255 (decide (4∈Q19 m))&&(Qkf m.Code 255 (decide (5∈Q19 m))&&(Qkf m.Time 65535 (decide (6∈Q19 m))&&(Qkf m.TopicID 65535 (decide (7∈Q19 m))&&(Qkf m.MsgID 65535 (decide (8∈Q19 m)) &&
 ((decide (9∈Q19 m)||decide (m.Name = []))&&((decide (10∈Q19 m)||decide (m.Data = []))&&(decide (m.Type'=24) || !m.Timed)))))))))
theorem Z9w {P:Prop} [Decidable P] {a b:List Int} (ha:a.length≤100) (hb:b.length≤100):(if P then a else b).length≤100:=by grind
theorem Z21 (m:Xl):(Q19 m).length≤100:=by
 unfold Q19
 repeat' first | exact Lj rfl | refine Z9w ?_ ?_
theorem Z3v (N:Nat) (m:Xl) (hk:m.Type'∈Qfq):Vs N m=some (Q19 m):=by
 obtain ⟨t,f,g,r,ti,td,tp,mi,co,nm,da⟩:=m;simp only [Qfq,Lx,Nh,or_false] at hk
 rcases hk with rfl | rfl | rfl | rfl | rfl | rfl | rfl | rfl | rfl | rfl | rfl | rfl | rfl | rfl | rfl | rfl | rfl | rfl | rfl | rfl | rfl | rfl | rfl | rfl | rfl | rfl | rfl
 all_goals simp [Vs,Qx,Q08,Q60,Q19]
 all_goals grind
theorem Z0z {N:Nat} (hN:100<N) (m:Xl) (hk:m.Type'∈Qfq):Z7 N m=some (Qvi m):=by
 have hl:=Z21 m;unfold Z7;rw [Z3v N m hk,Lf]
 have j2:∀ s,Yg N m (Q19 m) s=some (!s&&(Qkf m.Gateway 255 (decide (3∈Q19 m))&&(Qkf m.Radius 255 (decide (4∈Q19 m))&&(Qkf m.Code 255 (decide (5∈Q19 m))&&(Qkf m.Time 65535 (decide (6∈Q19 m))&&(Qkf m.TopicID 65535 (decide (7∈Q19 m))&&(Qkf m.MsgID 65535 (decide (8∈Q19 m)) &&
   ((decide (9∈Q19 m)||decide (m.Name = []))&&((decide (10∈Q19 m)||decide (m.Data = []))&&(decide (m.Type'=24) || !m.Timed)))))))))):=fun s=>by
  unfold Yg;simp only [Zs2 hN _ hl,Zda,Lf,Qx,Q08]
  grind
 have j1:∀ z a,Yh N m (Q19 m) z a=Yg N m (Q19 m) (decide (8∈Q19 m)&&(!a && !(decide (m.MsgID=0) == z))):=fun z a=>by
  unfold Yh;rw [Zs2 hN _ hl,Lf,Qx]
  grind
 have j0:∀ z,Zv N m (Q19 m) z=Yh N m (Q19 m) z (Z89 m):=fun z=>by
  grind [Zv,Z89,Qx]
 have e:cond (Q0 .eql m.Type' 12) (Zv N m (Q19 m) (Q0 .lss m.Flags.QoS 1)) (Zv N m (Q19 m) false)=Zv N m (Q19 m) (Zaw m):=by grind [Zaw,Qx,Qn]
 rw [e,j0,j1,j2];rfl
def Z8f (m:Xl):Bool:=if m.Type'=10∨m.Type'=14∨m.Type'=15∨m.Type'=16∨m.Type'=21∨m.Type'=18∨m.Type'=20 then decide (m.MsgID≠0) else if m.Type'=12 then (decide (m.MsgID≠0) == decide (m.Flags.QoS>0)) else true
theorem Zwn (N:Nat) (m:Xl) (hk:m.Type'∈Qfq):Q0q N m=some (Z8f m):=by
 obtain ⟨t,f,g,r,ti,td,tp,mi,co,nm,da⟩:=m;simp only [Qfq,Lx,Nh,or_false] at hk
 rcases hk with rfl | rfl | rfl | rfl | rfl | rfl | rfl | rfl | rfl | rfl | rfl | rfl | rfl | rfl | rfl | rfl | rfl | rfl | rfl | rfl | rfl | rfl | rfl | rfl | rfl | rfl | rfl
 all_goals simp [Q0q,Qx,Ym,Wc,Z8f]
theorem Z9c (m:Xl) (hk:m.Type'∈Qfq):Z8f m = !(decide (8∈Q19 m)&&(!Z89 m && !(decide (m.MsgID=0) == Zaw m))):=by
 obtain ⟨t,f,g,r,ti,td,tp,mi,co,nm,da⟩:=m
 have q:decide (f.QoS>0) = !decide (f.QoS<1):=by grind
 simp only [Qfq,Lx,Nh,or_false] at hk
 rcases hk with rfl | rfl | rfl | rfl | rfl | rfl | rfl | rfl | rfl | rfl | rfl | rfl | rfl | rfl | rfl | rfl | rfl | rfl | rfl | rfl | rfl | rfl | rfl | rfl | rfl | rfl | rfl
 all_goals simp [Z8f,Q19,Z89,Zaw,q]
 all_goals grind
 all_goals (cases decide (mi=0)<;>cases decide (f.QoS<1)<;>simp_all)
theorem Qk9 {n:Int} {b k:Int} {u:Bool} (hb:b+1=k) (hb0:0≤b):Qkf n b u=(!(u&&Qjg n k)&&decide ((if u=true then 0 else n)=0)):=by
 grind [Qkf,Qjg]
def Zbb (m:Xl):Bool:=decide ((if decide (3∈Q19 m)=true then 0 else m.Gateway)=0)&&(decide ((if decide (4∈Q19 m)=true then 0 else m.Radius)=0)&&(decide ((if decide (6∈Q19 m)=true then 0 else m.Time)=0)&&((decide (m.Type'=24) || !m.Timed)&&(decide ((if decide (7∈Q19 m)=true then 0 else m.TopicID)=0)&&(decide ((if decide (8∈Q19 m)=true then 0 else m.MsgID)=0)&&(decide ((if decide (5∈Q19 m)=true then 0 else m.Code)=0)&&((decide (9∈Q19 m)||decide (m.Name = []))&&(decide (10∈Q19 m)||decide (m.Data = [])))))))))
theorem Z9k (m v:Xl) (hv:v=Zay m):(((v.Type':Int) == m.Type')&&(((v.Flags.Dup:Bool) == m.Flags.Dup)&&(((v.Flags.QoS:Int) == m.Flags.QoS)&&(((v.Flags.Retain:Bool) == m.Flags.Retain)&&(((v.Flags.Will:Bool) == m.Flags.Will)&&(((v.Flags.Clean:Bool) == m.Flags.Clean)&&(((v.Flags.Type':Int) == m.Flags.Type')&&(((v.Gateway:Int) == 0)&&(((v.Radius:Int) == 0)&&(((v.Time:Int) == 0)&&(((v.Timed:Bool) == false)&&(((v.TopicID:Int) == 0)&&(((v.MsgID:Int) == 0)&&(((v.Code:Int) == 0)&&(((v.Name:List UInt8) == [])&&(((v.Data:List UInt8) == [])&&true))))))))))))))))=Zbb m:=by
 grind [Zay,Zbb]
def Zcn (m:Xl):Bool := !bdN m&&(Zbb m&&Z8f m)
theorem Z9s (m:Xl) (hk:m.Type'∈Qfq):Zcn m=Qvi m:=by
 unfold Zcn Qvi bdN Zbb;rw [Z9c m hk,Qk9 (k:=256) (by omega) (by omega),Qk9 (k:=256) (by omega) (by omega),Qk9 (k:=256) (by omega) (by omega),Qk9 (k:=65536) (by omega) (by omega),Qk9 (k:=65536) (by omega) (by omega),Qk9 (k:=65536) (by omega) (by omega)];generalize (decide (3∈Q19 m)&&Qjg m.Gateway 256)=x1;generalize (decide (4∈Q19 m)&&Qjg m.Radius 256)=x2;generalize (decide (6∈Q19 m)&&Qjg m.Time 65536)=x3;generalize (decide (7∈Q19 m)&&Qjg m.TopicID 65536)=x4
 grind
end
end Go.Av
namespace Go.Av
noncomputable section
set_option maxHeartbeats 4000000
def Qfl (m:Xl) (k:Int):List UInt8:=
 if k=1 then Q4k (Z54 m.Flags).toNat 1 else if k=2 then [1] else if k=3 then Q4k m.Gateway.toNat 1 else if k=4 then Q4k m.Radius.toNat 1 else if k=5 then Q4k m.Code.toNat 1 else
 if k=6 then Q4k m.Time.toNat 2 else if k=7 then Q4k m.TopicID.toNat 2 else if k=8 then Q4k m.MsgID.toNat 2 else if k=9 then m.Name else m.Data
def Z01 (m:Xl) (k:Int):Prop:=
 (k=1->Qnv m.Flags)∧(k=3->0≤m.Gateway∧m.Gateway≤255)∧(k=4->0≤m.Radius∧m.Radius≤255)∧(k=5->0≤m.Code∧m.Code≤255)∧(k=6->0≤m.Time∧m.Time≤65535)∧(k=7->0≤m.TopicID∧m.TopicID≤65535)∧(k=8->0≤m.MsgID∧m.MsgID≤65535)∧(1≤k∧k≤10)
def pwN (N:Nat) (k:Int) (c:Q3):Option (Unit×Q3):=
 if k=1 then Zb N c else if k=2 then Xk N c else if k=3 then X8 N c else if k=4 then Wh N c else if k=5 then Ya N c else
 if k=6 then Xv N c else if k=7 then Y1 N c else if k=8 then Zd N c else if k=9 then Qm N c else Xu N c
def chN (N:Nat):List Int->Q3->Option (Unit×Q3)
 | [],c=>some ((),c)
 | k::ks,c=>(pwN N k c).bind fun v=>chN N ks v.2
abbrev toI (l:List UInt8):List Int:=l.map fun b=>(b.toNat:Int)
theorem Qft {N:Nat} (hN:10<N) (m:Xl) (o:List Int) (b:Bool) (n:Int) (w:Nat) (hw:1≤w∧w≤2) (hn:0≤n∧n≤65535) (ho:o.length≤1000000):((Z2 N (wrap .u64 n) (w:Int)).bind fun v8=>
  cond (!(Nat.beq v8.length 0)) (cond (Nat.ble ((o.length+v8.length+4096) * 1) 17592186044416) (some ((),(⟨1,m,(o++(v8.map fun b=>(b.toNat:Int))),b⟩:Q3))) none) none)=some ((),⟨1,m,o++toI (Q4k n.toNat w),b⟩):=by
 have:=Qmt N n.toNat w (by omega) (by omega) hN;rw [show wrap .u64 n=((n.toNat:Nat):Int) by grind [Z49],this,Lf,Q0c];rw [show Nat.beq w 0=false from by cases w with | zero=>omega | succ w=>rfl,show Nat.ble ((o.length+w+4096) * 1) 17592186044416=true from bT];rfl
theorem Z41 (m:Xl) (o:List Int) (b:Bool) (s:List UInt8) (ho:o.length≤1000000) (hs:s.length≤1000000):cond (Nat.beq s.length 0) (some ((),(⟨1,m,o,b⟩:Q3))) (cond (Nat.ble ((o.length+s.length+4096) * 1) 17592186044416) (some ((),(⟨1,m,(o++(s.map fun b=>(b.toNat:Int))),b⟩:Q3))) none)=some ((),⟨1,m,o++toI s,b⟩):=by
 cases s<;>grind [Nat.beq,Nat.ble_eq]
theorem Z2g {N:Nat} (hN:10<N) {m:Xl} {k:Int} (h:Z01 m k) (hn:m.Name.length≤1000000) (hd:m.Data.length≤1000000) (o:List Int) (b:Bool) (ho:o.length≤1000000):pwN N k ⟨1,m,o,b⟩=some ((),⟨1,m,o++toI (Qfl m k),b⟩):=by
 obtain ⟨h1,h3,h4,h5,h6,h7,h8,h0,h10⟩:=h
 have hk:k=1∨k=2∨k=3∨k=4∨k=5∨k=6∨k=7∨k=8∨k=9∨k=10:=by omega
 rcases hk with rfl | rfl | rfl | rfl | rfl | rfl | rfl | rfl | rfl | rfl
 ·show Zb N ⟨1,m,o,b⟩=_;unfold Zb;rw [Z5c,Af (h1 rfl),Lf];have:=Z45 (h1 rfl);exact Qft hN m o b (Z54 m.Flags) 1 (by omega) (by omega) ho
 ·exact Qft hN m o b 1 1 (by omega) (by omega) ho
 ·have:=h3 rfl;exact Qft hN m o b m.Gateway 1 (by omega) (by omega) ho
 ·have:=h4 rfl;exact Qft hN m o b m.Radius 1 (by omega) (by omega) ho
 ·have:=h5 rfl;exact Qft hN m o b m.Code 1 (by omega) (by omega) ho
 ·have:=h6 rfl;exact Qft hN m o b m.Time 2 (by omega) (by omega) ho
 ·have:=h7 rfl;exact Qft hN m o b m.TopicID 2 (by omega) (by omega) ho
 ·have:=h8 rfl;exact Qft hN m o b m.MsgID 2 (by omega) (by omega) ho
 ·exact Z41 m o b m.Name ho hn
 exact Z41 m o b m.Data ho hd
theorem Qgs {m:Xl} (k:Int) {B:Nat} (hn:m.Name.length≤B) (hd:m.Data.length≤B) (hB:2≤B):(Qfl m k).length≤B:=by
 grind [Qfl,Q0c]
theorem Z9g {N:Nat} (hN:10<N) {m:Xl} (hn:m.Name.length≤100000) (hd:m.Data.length≤100000) (b:Bool):∀ (ks:List Int) (o:List Int),(∀ k∈ks,Z01 m k)->o.length+100000 * ks.length≤1000000->chN N ks ⟨1,m,o,b⟩=some ((),⟨1,m,o++toI (ks.flatMap (Qfl m)),b⟩)
 | [],o,_,_=>by simp [chN]
 | k::ks,o,h,ho=>by
  have hp:=Qgs (m:=m) k hn hd (by omega);rw [chN,Z2g hN (h k (List.mem_cons_self ..)) (by omega) (by omega) o b (by omega),Lf];simp only [Mj] at ho;rw [Z9g hN hn hd b ks _ (fun x hx=>h x (List.mem_cons_of_mem _ hx)) (by grind)];simp
theorem Qy2 (m:Xl):(Q19 m).length≤4:=by
 unfold Q19
 have if4:∀ {P:Prop} [Decidable P] {a b:List Int},a.length≤4->b.length≤4->(if P then a else b).length≤4:=fun ha hb=>by grind
 repeat' first | exact Lj rfl | refine if4 ?_ ?_
theorem Qun {N:Nat} (hN:10<N) {m:Xl} (hk:m.Type'∈Qfq) (hn:m.Name.length≤100000) (hd:m.Data.length≤100000) (hf:∀ k∈Q19 m,Z01 m k) (b:Bool):Z1 N ⟨1,m,[],b⟩=some ((),⟨1,m,toI ((Q19 m).flatMap (Qfl m)),b⟩):=by
 have h4:=Qy2 m;have e:=Z9g hN hn hd b (Q19 m) [] hf (by grind);rw [Nm] at e;rw [← e];obtain ⟨M,rfl⟩:∃ M,N=M+1:=⟨N - 1,by omega⟩;have p1:=fun h=>Z2g hN (m:=m) (k:=1) h (by omega) (by omega) [] b (by simp);have p8:=fun h=>Z2g hN (m:=m) (k:=8) h (by omega) (by omega) (toI (Qfl m 1)) b (by have:=Qgs (m:=m) 1 hn hd (by omega);grind);obtain ⟨t,f,g,r,ti,td,tp,mi,co,nm,da⟩:=m;simp only [Qfq,Lx,Nh,or_false] at hk
 have sub:(t=18∨t=20)->Z1 (M+1) ⟨1,⟨t,f,g,r,ti,td,tp,mi,co,nm,da⟩,[],b⟩=chN (M+1) (Q19 ⟨t,f,g,r,ti,td,tp,mi,co,nm,da⟩) ⟨1,⟨t,f,g,r,ti,td,tp,mi,co,nm,da⟩,[],b⟩:=fun ht=>by
  have f1:Z01 ⟨t,f,g,r,ti,td,tp,mi,co,nm,da⟩ 1∧Z01 ⟨t,f,g,r,ti,td,tp,mi,co,nm,da⟩ 8:=by
   rcases ht with rfl | rfl<;>by_cases z:f.Type'=0<;>simp [Q19,z] at hf<;>simp_all
  have p1:=p1 f1.1;have p8:=p8 f1.2
  have e1:Z1 (M+1) ⟨1,⟨t,f,g,r,ti,td,tp,mi,co,nm,da⟩,[],b⟩=(pwN (M+1) 1 ⟨1,⟨t,f,g,r,ti,td,tp,mi,co,nm,da⟩,[],b⟩).bind fun v=>(pwN (M+1) 8 v.2).bind fun v=>(W6 (M+1) v.2).bind fun v=>some ((),v.2):=gJ
  rw [e1,p1,Lf,Nm,p8,Lf];unfold W6;rw [Qx]
  by_cases z:f.Type'=0
  ·have ep:Q19 ⟨t,f,g,r,ti,td,tp,mi,co,nm,da⟩ = [1,8,9]:=iX
   rw [ep,chN,p1,Lf,Nm,chN,p8,Lf,Ad (show (⟨1,⟨t,f,g,r,ti,td,tp,mi,co,nm,da⟩,toI (Qfl ⟨t,f,g,r,ti,td,tp,mi,co,nm,da⟩ 1)++toI (Qfl ⟨t,f,g,r,ti,td,tp,mi,co,nm,da⟩ 8),b⟩:Q3).m.Flags.Type'=0 from z)]
   have q:∀ C,((Qm (M+1) C).bind fun v2=>some ((),v2.2)).bind (fun v=>some ((),v.2))=chN (M+1) [9] C:=fun C=>by
    have e:chN (M+1) [9] C=(Qm (M+1) C).bind fun v=>some ((),v.2):=rfl;rw [e];cases Qm (M+1) C<;>rfl
   simp_all
  have ep:Q19 ⟨t,f,g,r,ti,td,tp,mi,co,nm,da⟩ = [1,8,7]:=iX
  rw [ep,chN,p1,Lf,Nm,chN,p8,Lf,Ab (show ¬ (⟨1,⟨t,f,g,r,ti,td,tp,mi,co,nm,da⟩,toI (Qfl ⟨t,f,g,r,ti,td,tp,mi,co,nm,da⟩ 1)++toI (Qfl ⟨t,f,g,r,ti,td,tp,mi,co,nm,da⟩ 8),b⟩:Q3).m.Flags.Type'=0 from z)]
  have q:∀ C,((Y1 (M+1) C).bind fun v2=>some ((),v2.2)).bind (fun v=>some ((),v.2))=chN (M+1) [7] C:=fun C=>by
   have e:chN (M+1) [7] C=(Y1 (M+1) C).bind fun v=>some ((),v.2):=rfl;rw [e];cases Y1 (M+1) C<;>rfl
  simp_all
 by_cases ht:t=18∨t=20
 ·simp_all
 have wil:(t=7∨t=26)->Z1 (M+1) ⟨1,⟨t,f,g,r,ti,td,tp,mi,co,nm,da⟩,[],b⟩=chN (M+1) (Q19 ⟨t,f,g,r,ti,td,tp,mi,co,nm,da⟩) ⟨1,⟨t,f,g,r,ti,td,tp,mi,co,nm,da⟩,[],b⟩:=fun ht=>by
  cases nm with
  | nil=>exact gJ
  | cons x nm=>
   have f1:Z01 ⟨t,f,g,r,ti,td,tp,mi,co,x::nm,da⟩ 1:=by grind [Q19]
   have p1:=p1 f1
   have ep:Q19 ⟨t,f,g,r,ti,td,tp,mi,co,x::nm,da⟩ = [1,9]:=by grind [Q19]
   have e1:Z1 (M+1) ⟨1,⟨t,f,g,r,ti,td,tp,mi,co,x::nm,da⟩,[],b⟩=((pwN (M+1) 1 ⟨1,⟨t,f,g,r,ti,td,tp,mi,co,x::nm,da⟩,[],b⟩).bind fun v=>cond (Q0 .eql v.2.do' 0) ((Qm (M+1) v.2).bind fun v7=>some ((),v7.2)) ((Qm (M+1) v.2).bind fun v9=>some ((),v9.2))).bind fun v=>some ((),v.2):=gJ
   rw [e1,ep,chN,p1,Lf,Lf,Nm]
   have q:∀ C:Q3,C.do'=1->(cond (Q0 .eql C.do' 0) ((Qm (M+1) C).bind fun v7=>some ((),v7.2)) ((Qm (M+1) C).bind fun v9=>some ((),v9.2))).bind (fun v=>some ((),v.2))=chN (M+1) [9] C:=fun C hC=>by
    have e:chN (M+1) [9] C=(Qm (M+1) C).bind fun v=>some ((),v.2):=rfl;rw [e,hC];cases Qm (M+1) C<;>rfl
   simp_all
 by_cases hw:t=7∨t=26
 ·simp_all
 clear wil
 by_cases hu:t=24∧td=true
 ·obtain ⟨rfl,rfl⟩:=hu
  have f1:Z01 ⟨24,f,g,r,ti,true,tp,mi,co,nm,da⟩ 6:=by simp_all [Q19]
  have p6:=Z2g hN (k:=6) f1 (by omega) (by omega) [] b (by simp);have e1:Z1 (M+1) ⟨1,⟨24,f,g,r,ti,true,tp,mi,co,nm,da⟩,[],b⟩=((pwN (M+1) 6 ⟨1,⟨24,f,g,r,ti,true,tp,mi,co,nm,da⟩,[],b⟩).bind fun v4=>cond (Q0 .eql v4.2.do' 2) (some ((),(⟨v4.2.do',(⟨v4.2.m.Type',v4.2.m.Flags,v4.2.m.Gateway,v4.2.m.Radius,v4.2.m.Time,false,v4.2.m.TopicID,v4.2.m.MsgID,v4.2.m.Code,v4.2.m.Name,v4.2.m.Data⟩:Xl),v4.2.out,v4.2.bad⟩:Q3))) (some ((),v4.2))).bind fun v=>some ((),v.2):=rfl;have e2:chN (M+1) (Q19 ⟨24,f,g,r,ti,true,tp,mi,co,nm,da⟩) ⟨1,⟨24,f,g,r,ti,true,tp,mi,co,nm,da⟩,[],b⟩=(pwN (M+1) 6 ⟨1,⟨24,f,g,r,ti,true,tp,mi,co,nm,da⟩,[],b⟩).bind fun v=>some ((),v.2):=rfl;rw [e1,e2,p6];rfl
 clear sub e p1 p8
 rcases hk with rfl | rfl | rfl | rfl | rfl | rfl | rfl | rfl | rfl | rfl | rfl | rfl | rfl | rfl | rfl | rfl | rfl | rfl | rfl | rfl | rfl | rfl | rfl | rfl | rfl | rfl | rfl
 all_goals first | rfl | (exact absurd ht (by decide)) | (exact absurd hw (by decide)) | (cases td<;>first | rfl | exact absurd ⟨rfl,rfl⟩ hu)
theorem Qz5 (N:Nat) (hN:10<N) {m:Xl} (hn:m.Name.length≤100000) (hd:m.Data.length≤100000) (l:List Int) (hf:∀ k∈l,Z01 m k) (hl:l.length≤4):∀ (j i:Nat) (o:List UInt8),i≤l.length->l.length<j+i->o.length+100000 * (l.length - i)≤1000000->Qo N m l j o (i:Int)=some (o++(l.drop i).flatMap (Qfl m))
 | 0,i,o,h1,h2,_=>by omega
 | j+1,i,o,h1,h2,ho=>by
  rw [Qo,Q6,Qn]
  by_cases hi:i<l.length
  ·rw [Ad (show (i:Int)<(l.length:Int) by omega)];show (idx l (i:Int)).bind _=_;rw [show idx l (i:Int)=some l[i] from by show l[i]? = _;simp,Lf,Lz hi,Mz];have hk:=hf l[i] (Mc hi);generalize l[i]=k at hk ⊢
   have wi:wrap .i64 ((i:Int)+1)=((i+1:Nat):Int):=dn
   have hp:=Qgs (m:=m) k hn hd (by omega)
   have fin:∀ s:List UInt8,s=Qfl m k->cond (Nat.ble (o.length+s.length) 4611686018427387904) (Qo N m l j (o++s) (wrap .i64 ((i:Int)+1))) none=some (o++(Qfl m k++(l.drop (i+1)).flatMap (Qfl m))):=fun s hs=>by
    subst hs;rw [show Nat.ble (o.length+(Qfl m k).length) 4611686018427387904=true from bT,wi];show Qo N m l j _ _=_;rw [Qz5 N hN hn hd l hf hl j (i+1) _ (by omega) (by omega) (by grind),List.append_assoc]
   have one:∀ n:Int,0≤n∧n≤255->[UInt8.ofNat (wrap .u8 n).toNat]=Q4k n.toNat 1:=fun n h=>Z7t n (by omega)
   have two:∀ n:Int,0≤n∧n≤65535->Zm N (wrap .u64 n) 2=some (Q4k n.toNat 2):=fun n h=>by
    grind [Qvy,Z49]
   obtain ⟨h1,h3,h4,h5,h6,h7,h8,h0,h10⟩:=hk
   have hk:k=1∨k=2∨k=3∨k=4∨k=5∨k=6∨k=7∨k=8∨k=9∨k=10:=by omega
   rcases hk with rfl | rfl | rfl | rfl | rfl | rfl | rfl | rfl | rfl | rfl
   ·show (Xn N m.Flags).bind _=_;rw [Za6,Af (h1 rfl),Lf];exact fin _ (one _ (Z45 (h1 rfl)))
   ·exact fin _ rfl
   ·exact fin _ (one _ (h3 rfl))
   ·exact fin _ (one _ (h4 rfl))
   ·exact fin _ (one _ (h5 rfl))
   ·show (Zm N _ 2).bind _=_;rw [two _ (h6 rfl),Lf];exact fin _ rfl
   ·show (Zm N _ 2).bind _=_;rw [two _ (h7 rfl),Lf];exact fin _ rfl
   ·show (Zm N _ 2).bind _=_;rw [two _ (h8 rfl),Lf];exact fin _ rfl
   ·exact fin _ rfl
   exact fin _ rfl
  grind
def Qq2 (m:Xl):List UInt8:=(Q19 m).flatMap (Qfl m)
section
variable {m:Xl} (hk:m.Type'∈Qfq) (hn:m.Name.length≤100000) (hd:m.Data.length≤100000) (hf:∀ k∈Q19 m,Z01 m k)
include hk hn hd hf
theorem Za1 {N:Nat} (hN:10<N):Q0u N m=some (Qq2 m):=by
 unfold Q0u;rw [Qun hN hk hn hd hf,Lf];show some ((toI (Qq2 m)).map fun n=>UInt8.ofNat n.toNat)=_;rw [Mr,show ((fun n:Int=>UInt8.ofNat n.toNat) ∘ fun b:UInt8=>(b.toNat:Int))=id from by funext b;simp,List.map_id]
theorem Zam {N:Nat} (hN:10<N):Zi N m=some (Qq2 m):=by
 unfold Zi;rw [Z3v N m hk,Lf];have h4:=Qy2 m;have:=Qz5 N hN hn hd (Q19 m) hf h4 N 0 [] (by omega) (by omega) (by grind)
 rwa [Nm,Br] at this
end
end
end Go.Av
namespace Go.Av
noncomputable section
set_option maxHeartbeats 4000000
def hdS (k n:Int):List UInt8:=if n≤253 then Q4k (n+2).toNat 1++Q4k k.toNat 1 else Q4k 1 1++Q4k (n+4).toNat 2++Q4k k.toNat 1
def hdX (k n:Int):List UInt8×Int:=if Qvj k=true then (if n>65531 then ([],4) else (hdS k n,0)) else ([],8)
theorem Qwx {k:Int} (h:Qvj k=true):0≤k∧k≤255:=by
 have:=Aa h;omega
theorem Qxj {N:Nat} (hN:10<N) (k n:Int) (hn:0≤n∧n≤1000000000):Jo N k n=some (hdX k n):=by
 unfold Jo hdX;rw [Z4e,Lf]
 cases hk:Qvj k with
 | false=>rfl
 | true=>
  have kb:=Qwx hk
  have pt:∀ (x:Int) (w:Nat),0≤x∧x≤65535->w≤8->Z2 N (wrap .u64 x) (w:Int)=some (Q4k x.toNat w):=fun x w h hw=>by
   grind [Qmt,Z49]
  have e2:wrap .i64 (n+2)=n+2:=dn
  have e4:wrap .i64 (n+4)=n+4:=dn
  rw [Qn,Wc,Uy,e2,e4,Ab (show ¬ n<0 by omega)];show cond (decide (n>65531)) (some ([],4)) _=_
  by_cases h1:n>65531
  ·simp_all
  rw [Ab h1]
  by_cases h2:n≤253
  ·rw [Ad (show n+2≤255 by omega)];show (Z2 N (wrap .u64 (n+2)) ((1:Nat):Int)).bind (fun v7=>(Z2 N (wrap .u64 k) ((1:Nat):Int)).bind fun v9=>cond (Nat.ble (v7.length+v9.length) 4611686018427387904) (some ((v7++v9),(0:Int))) none)=_;rw [pt (n+2) 1 (by omega) (by omega),Lf,pt k 1 (by omega) (by omega),Lf,Q0c,Q0c];simp [hdS,h2,h1];rfl
  rw [Ab (show ¬ n+2≤255 by omega)];have p1:=pt 1 1 (by omega) (by omega);rw [show wrap .u64 1=(1:Int) from rfl] at p1;show (Z2 N 1 ((1:Nat):Int)).bind (fun v12=>(Z2 N (wrap .u64 (n+4)) ((2:Nat):Int)).bind fun v14=>cond (Nat.ble (v12.length+v14.length) 4611686018427387904) ((Z2 N (wrap .u64 k) ((1:Nat):Int)).bind fun v17=>cond (Nat.ble ((v12++v14).length+v17.length) 4611686018427387904) (some (((v12++v14)++v17),(0:Int))) none) none)=_;rw [p1,Lf,pt (n+4) 2 (by omega) (by omega),Lf,pt k 1 (by omega) (by omega)];rw [Q0c,Q0c];simp only [Lf,Mp,Q0c];simp [hdS,h2,h1];rfl
theorem Qxb {N:Nat} (hN:10<N) (k n:Int) (hn:0≤n∧n≤1000000000):Zc N k n=some (hdX k n):=by
 unfold Zc hdX;rw [Z3q,Lf]
 cases hk:Qvj k with
 | false=>rfl
 | true=>
  have kb:=Qwx hk
  have e2:wrap .i64 (n+2)=n+2:=dn
  have e4:wrap .i64 (n+4)=n+4:=dn
  have one:∀ n:Int,0≤n∧n≤255->UInt8.ofNat (wrap .u8 n).toNat=UInt8.ofNat n.toNat:=fun n h=>by grind [IntKind.wrap_u8]
  have b1:∀ n:Int,0≤n∧n≤255->Q4k n.toNat 1 = [UInt8.ofNat n.toNat]:=fun n h=>by rw [← Z7t n (by omega),one n h]
  rw [Qn,Wc,Uy,e2,e4,Ab (show ¬ n<0 by omega)]
  by_cases h2:n≤253
  ·grind [hdS]
  rw [Ab h2];show cond (decide (n>65531)) (some ([],4)) _=_
  by_cases h1:n>65531
  ·simp_all
  rw [Ab h1];have:=Qvy N (n+4).toNat 2 (by omega) (by omega) hN;rw [show (((n+4).toNat:Nat):Int)=wrap .u64 (n+4) by grind [Z49]] at this;show (Zm N (wrap .u64 (n+4)) ((2:Nat):Int)).bind _=_;rw [this,Lf,one k kb,Q0c];simp [hdS,h2,h1,b1 k kb,Q0c];rfl
def Qty (id:Int):List UInt8×Bool:=if 0≤id∧id≤65535 then (if Q0j (Q4k id.toNat 2)=true then (Q4k id.toNat 2,true) else ([],false)) else ([],false)
theorem Qi6 (id:Int):Tot (fun N=>Q0t N id) (Qty id):=by
 refine Aw ?_;unfold Q0t Qty;rw [Qn,Wc];refine Az (fun g => .ret (by grind)) (fun g=>?_);refine Az (fun g => .ret (by grind)) (fun g2=>?_)
 have h:0≤id∧id≤65535:=by simp_all
 rw [Af h];refine Ay (Z0h id (by omega) 2 (by omega)) ?_;refine Ay (Q6y _ (by rw [Q0c];decide)) ?_
 exact gQ
theorem Qn4 (id:Int):Tot (fun N=>Wi N id) (Qty id):=by
 refine Aw ?_;unfold Wi Qty;rw [Qn,Wc];refine Az (fun g => .ret (by grind)) (fun g=>?_);refine Az (fun g => .ret (by grind)) (fun g2=>?_)
 have h:0≤id∧id≤65535:=by simp_all
 rw [Af h];refine Ay (v:=Q4k id.toNat 2) ⟨11,fun N hN=>?_⟩ ?_
 ·grind [Qvy,wrap,Z49]
 have hl:=Q0c 2 id.toNat;unfold Wv;rw [hl];refine Ax (V:=fun v=>v.2=Q0j (Q4k id.toNat 2)) ?_ (fun v hv=>?_)
 ·refine Az (fun g=>nomatch g) (fun _=>?_);refine Ay (Q7j _ (by rw [hl];decide)) ?_
  cases Q0j (Q4k id.toNat 2) with
  | false=>exact eP
  | true=>exact Ay ⟨11,fun N hN=>Z8z N _ (by omega) (by omega)⟩ (.ret rfl)
 rw [hv]
 exact gQ
def tpE (f id:Int):Int:=if f=2 then (if (Qty id).2=true then 0 else 10) else if id<1 then 2 else if id>65534 then 2 else 0
theorem Qfg {D:Nat->Option (List UInt8×Bool)} {f id:Int} (hD:Tot D (Qty id)):TotP (fun N=>cond (Q0 .eql f 2) ((D N).bind fun v4=>cond (!v4.2) (some (10:Int)) (some 0)) (cond (Q0 .lss id 1) (some 2) (cond (Q0 .gtr id 65534) (some 2) (some 0)))) (· = tpE f id):=by
 unfold tpE;rw [Qx,Qn,Wc];refine Az (fun g=>?_) (fun g=>?_)
 ·rw [Af (Aa g)];refine Ay hD ?_
  cases (Qty id).2 with
  | false=>exact eP
  | true=>exact eP
 rw [Ae (Ac g)];refine Az (fun g => .ret (by simp_all)) (fun g=>?_);rw [Ae (Ac g)];exact Az (fun g => .ret (by simp_all)) (fun g => .ret (by simp_all))
def Z3x (m:Xl):Int:=if m.Type'=12∨m.Type'=10 then tpE m.Flags.Type' m.TopicID else if m.Type'=18∨m.Type'=20 then (if m.Flags.Type'=0 then 0 else tpE m.Flags.Type' m.TopicID) else 0
theorem Z92 (m:Xl):Tot (fun N=>Js N m) (Z3x m):=by
 refine Aw ?_;unfold Js Z3x;rw [Qx,Qx,Qx,Qx,Qx];refine Az (fun g=>?_) (fun g1=>?_)
 ·have g:=Aa g;rw [Ae (by omega),Af (.inl g)];exact fF
 refine Az (fun g=>?_) (fun g2=>?_)
 ·have g:=Aa g;rw [Ae (by omega),Af (.inr g)];exact fF
 have g1:=Ac g1;have g2:=Ac g2;refine Az (fun g=>?_) (fun g3=>?_)
 ·rw [Af (.inl (Aa g))];exact Qfg (Qi6 _)
 refine Az (fun g=>?_) (fun g4=>?_)
 ·rw [Af (.inr (Aa g))];exact Qfg (Qi6 _)
 have g3:=Ac g3;have g4:=Ac g4;exact .ret (by omega)
theorem Z84 (m:Xl):Tot (fun N=>Zk N m) (Z3x m):=by
 refine Aw ?_;unfold Zk Z3x;rw [Qx,Qx,Qx,Qx]
 have nt:(!(Q0 .neq m.Flags.Type' 0))=decide (m.Flags.Type'=0):=by simp_all [Ym]
 rw [nt];refine Az (fun g=>?_) (fun g1=>?_)
 ·rw [Af (.inl (Aa g))];exact Qfg (Qn4 _)
 refine Az (fun g=>?_) (fun g2=>?_)
 ·rw [Af (.inr (Aa g))];exact Qfg (Qn4 _)
 have g1:=Ac g1;have g2:=Ac g2;rw [Ae (by omega)];refine Az (fun g=>?_) (fun g3=>?_)
 ·rw [Af (.inl (Aa g))];exact fG
 refine Az (fun g=>?_) (fun g4=>?_)
 ·rw [Af (.inr (Aa g))];exact fG
 have g3:=Ac g3;have g4:=Ac g4;exact .ret (by omega)
def Z7q (m:Xl):Int:=
 if m.Type'=4 then (if m.Name ≠ []∧m.Name.length≤23∧Q8z m.Name=true then 0 else 6) else if m.Type'=22 then (if m.Name.length≤23∧Q8z m.Name=true then 0 else 6) else if m.Type'=10 then (if Q0j m.Name=true then 0 else 10) else
 if m.Type'=7∨m.Type'=26 then (if m.Name = []∨Q0j m.Name=true then 0 else 10) else if m.Type'=18∨m.Type'=20 then (if m.Flags.Type'≠0∨Z7h m.Name=true then 0 else 10) else if m.Type'=2 then (if m.Name.length≤16 then 0 else 2) else 0
theorem Qns {D:Nat->Option Bool} {v:Bool} {x y:Int} (hD:Tot D v):TotP (fun N=>(D N).bind fun v=>cond v (some x) (some y)) (· = if v=true then x else y):=fE
theorem Qvt {D:Nat->Option Bool} {v:Bool} {x y:Int} (hD:Tot D v):TotP (fun N=>(D N).bind fun v=>cond (!v) (some x) (some y)) (· = if v=true then y else x):=fE
theorem TotP.eqv {α:Type} {f:Nat->Option α} {a b : α} (h:TotP f (· = a)) (e:a=b):TotP f (· = b):=e▸h
section
variable (m:Xl) (hn:m.Name.length≤70000)
include hn
theorem Zaf:Tot (fun N=>Q1k N m) (Z7q m):=by
 refine Aw ?_;have hm:m.Name.length≤maxLen:=Ma hn (Lj rfl);unfold Q1k Z7q;simp only [Qx,Q08,Q60,Uy,Ym]
 have wil:TotP (fun N=>cond (decide (m.Name = [])) (some 0) ((Wg N m.Name).bind fun v18=>cond v18 (some 0) (some 10))) (· = if m.Name = []∨Q0j m.Name=true then 0 else (10:Int)):=by
  refine Az (fun g => .ret (by simp_all)) (fun g=>?_);refine (Qns (Q6y _ hm)).eqv ?_;have g:=Ac g;simp [g]
 have sub:TotP (fun N=>cond (decide (m.Flags.Type'≠0)) (some 0) ((Q0x N m.Name).bind fun v28=>cond v28 (some 0) (some 10))) (· = if m.Flags.Type'≠0∨Z7h m.Name=true then 0 else (10:Int)):=by
  refine Az (fun g => .ret (by simp_all)) (fun g=>?_);refine (Qns (Z6v _ hn)).eqv ?_;have g:=Ac g;simp [g]
 refine Az (fun g=>?_) (fun g4=>?_)
 ·rw [Af (Aa g)];refine Az (fun g1=>?_) (fun g1 => .ret (by simp_all));exact fA
 rw [Ae (Ac g4)];refine Az (fun g=>?_) (fun g22=>?_)
 ·rw [Af (Aa g)];exact fA
 rw [Ae (Ac g22)];refine Az (fun g=>?_) (fun g10=>?_)
 ·simp_all [Qns,Q6y]
 exact aO
theorem Z8a:Tot (fun N=>Zp N m) (Z7q m):=by
 refine Aw ?_;have hm:m.Name.length≤maxLen:=Ma hn (Lj rfl);unfold Zp Z7q;simp only [Qx,Q08,Q60,Wc,Ym]
 have wil:TotP (fun N=>cond (decide (m.Name ≠ [])) ((Zn N m.Name).bind fun v18=>cond (!v18) (some 10) (some 0)) (some 0)) (· = if m.Name = []∨Q0j m.Name=true then 0 else (10:Int)):=by
  refine Az (fun g=>?_) (fun g => .ret (by simp_all));refine (Qvt (Q7j _ hm)).eqv ?_;have g:=Aa g;simp [g]
 have sub:TotP (fun N=>cond (decide (m.Flags.Type'=0)) ((Wl N m.Name).bind fun v28=>cond (!v28) (some 10) (some 0)) (some 0)) (· = if m.Flags.Type'≠0∨Z7h m.Name=true then 0 else (10:Int)):=by
  refine Az (fun g=>?_) (fun g => .ret (by simp_all));refine (Qvt (Z5y _ hn)).eqv ?_;have g:=Aa g;simp [g]
 refine Az (fun g=>?_) (fun g4=>?_)
 ·rw [Af (Aa g)];refine Ay (Qbs _) ?_
  cases hv:Q8z m.Name with
  | false=>exact .ret (by simp)
  | true=>
   refine Az (fun g=>nomatch g) (fun _=>?_);refine Az (fun g2 => .ret (by grind)) (fun g2=>?_);have g2:=Ac g2;refine Az (fun g2 => .ret (by simp_all)) (fun g3 => .ret ?_)
   grind
 rw [Ae (Ac g4)];refine Az (fun g=>?_) (fun g22=>?_)
 ·rw [Af (Aa g)];refine Ay (Qbs _) ?_
  cases hv:Q8z m.Name with
  | false=>exact .ret (by simp)
  | true=>
   refine Az (fun g=>nomatch g) (fun _=>?_);refine Az (fun g2 => .ret (by grind)) (fun g2 => .ret ?_)
   grind
 rw [Ae (Ac g22)];refine Az (fun g=>?_) (fun g10=>?_)
 ·rw [Af (Aa g)];exact Qvt (Q7j _ hm)
 exact aO
end
end
end Go.Av
namespace Go.Av
noncomputable section
set_option maxHeartbeats 4000000
def zfl (f:Qz):Bool:=(((f.Dup:Bool) == false)&&(((f.QoS:Int) == 0)&&(((f.Retain:Bool) == false)&&(((f.Will:Bool) == false)&&(((f.Clean:Bool) == false)&&(((f.Type':Int) == 0)&&true))))))
def Z2x (m:Xl):Bool:=decide (m.Type'=7∨m.Type'=26)
def tlE (m:Xl):Int:=if Qvi m=true then (if Z3x m=0 then (if Z7q m=0 then (hdX m.Type' (Qq2 m).length).2 else Z7q m) else Z3x m) else 2
def snE (m:Xl):Int:=if m.Type'∈Qfq then (if Qvl m.Type' m.Flags=true then (if Z2x m=true∧m.Name = []∧zfl m.Flags=false then 7 else tlE m) else 7) else 8
def snY (m:Xl):List UInt8:=hdS m.Type' (Qq2 m).length++Qq2 m
theorem Qlu {k:Int} (h:k∈Qfq):Qvj k=true∧k≠254:=by
 simp only [Qfq,Lx,Nh,or_false] at h;unfold Qvj;exact ⟨Ad (by omega),by omega⟩
theorem Z2l (m:Xl):∀ k∈Q19 m,1≤k∧k≤10:=by
 have ifr:∀ {P:Prop} [Decidable P] {a b:List Int},(∀ k∈a,1≤k∧k≤10)->(∀ k∈b,1≤k∧k≤10)->∀ k∈(if P then a else b),1≤k∧k≤10:=fun ha hb=>by grind
 unfold Q19
 repeat' first | (refine ifr ?_ ?_) | decide
theorem Qhv {n b:Int} {u:Bool} (h:Qkf n b u=true):0≤n∧n≤b:=by
 simp_all [Qkf]
theorem Qsq {m:Xl} (hf:Qnv m.Flags) (h:Qvi m=true):∀ k∈Q19 m,Z01 m k:=fun k hk=>by
 unfold Qvi at h;simp only [Le] at h;obtain ⟨_,h3,h4,h5,h6,h7,h8,_⟩:=h;exact ⟨fun _=>hf,fun _=>Qhv h3,fun _=>Qhv h4,fun _=>Qhv h5,fun _=>Qhv h6,fun _=>Qhv h7,fun _=>Qhv h8,Z2l m k hk⟩
theorem Qwd {k:Int} {f:Qz} (h:Qvl k f=true):Qnv f:=by
 simp_all [Qvl]
theorem Z8g {m:Xl} {l:List Int} {a b:Int} (hab:a≠b) (ha:a∈l) (hb:b∈l):(Qfl m a).length+(Qfl m b).length≤(l.flatMap (Qfl m)).length:=by
 have one:∀ (l:List Int) x,x∈l->(Qfl m x).length≤(l.flatMap (Qfl m)).length:=fun l x=>by
  induction l<;>grind
 induction l<;>grind
theorem Qwf {m:Xl} {l:List Int} {a:Int} (ha:a∈l):(Qfl m a).length≤(l.flatMap (Qfl m)).length:=by
 induction l<;>grind
theorem Z6x {m:Xl} (h:Qvi m=true):m.Name.length+m.Data.length≤(Qq2 m).length:=by
 unfold Qvi at h;simp only [Le,Nl,Ag] at h;obtain ⟨_,_,_,_,_,_,_,h9,h10,_⟩:=h;unfold Qq2;have e9:Qfl m 9=m.Name:=rfl;have e10:Qfl m 10=m.Data:=rfl
 rcases h9 with h9 | h9<;>rcases h10 with h10 | h10
 ·have:=Z8g (m:=m) (a:=9) (b:=10) (by decide) h9 h10;simp_all
 ·have:=Qwf (m:=m) h9;simp_all
 ·have:=Qwf (m:=m) h10;simp_all
 simp_all
theorem Qe8 {m:Xl} (hn:m.Name.length≤100000) (hd:m.Data.length≤100000):(Qq2 m).length≤400000:=by
 unfold Qq2;have h4:=Qy2 m
 have:∀ l:List Int,(l.flatMap (Qfl m)).length≤100000 * l.length:=fun l=>by
  induction l with
  | nil=>simp
  | cons k l ih=>rw [Mz,Mp,Mj];have:=Qgs (m:=m) k hn hd (by omega);omega
 grind
theorem Zo6 {m:Xl} (h:snE m=0):m.Type'∈Qfq∧Qnv m.Flags∧Qvi m=true∧hdX m.Type' (Qq2 m).length=(hdS m.Type' (Qq2 m).length,0):=by
 grind [snE,tlE,Qwd,hdX]
section
variable {m:Xl} (hn:m.Name.length≤70000) (hd:m.Data.length≤70000)
include hn hd
theorem Zc6 (hk:m.Type'∈Qfq) (hf:Qnv m.Flags):TotP (fun N=>(Z1 N (⟨2,m,[],false⟩:Q3)).bind fun v12=>
 cond v12.2.bad
 (some 2)
 (cond (!(((v12.2.m.Type':Int) == m.Type')&&(((v12.2.m.Flags.Dup:Bool) == m.Flags.Dup)&&(((v12.2.m.Flags.QoS:Int) == m.Flags.QoS)&&(((v12.2.m.Flags.Retain:Bool) == m.Flags.Retain)&&(((v12.2.m.Flags.Will:Bool) == m.Flags.Will)&&(((v12.2.m.Flags.Clean:Bool) == m.Flags.Clean)&&(((v12.2.m.Flags.Type':Int) == m.Flags.Type')&&(((v12.2.m.Gateway:Int) == 0)&&(((v12.2.m.Radius:Int) == 0)&&(((v12.2.m.Time:Int) == 0)&&(((v12.2.m.Timed:Bool) == false)&&(((v12.2.m.TopicID:Int) == 0)&&(((v12.2.m.MsgID:Int) == 0)&&(((v12.2.m.Code:Int) == 0)&&(((v12.2.m.Name:List UInt8) == [])&&(((v12.2.m.Data:List UInt8) == [])&&true)))))))))))))))))
 (some 2)
 ((Q0q N m).bind fun v16=>
 cond (!v16)
 (some 2)
 ((Js N m).bind fun v19=>
 cond (Q0 .neq v19 0)
 (some v19)
 ((Q1k N m).bind fun v22=>
 cond (Q0 .neq v22 0)
 (some v22)
 ((Q0u N m).bind fun v25=>
 (Jo N m.Type' (v25.length:Int)).bind fun v27=>
 some v27.2)))))) (· = tlE m):=by
 have e:=Z9s m hk;unfold Zcn at e;unfold tlE;refine Ay (Qnk m hk) ?_;show TotP (fun N=>cond (bdN m) _ _) _;rw [Z9k m (Zay m) rfl];refine Az (fun g => .ret ?_) (fun g1=>?_)
 ·simp_all
 rw [g1] at e;refine Az (fun g => .ret ?_) (fun g2=>?_)
 ·simp_all
 rw [bP g2] at e;refine Ay (.of fun N=>Zwn N m hk) ?_;refine Az (fun g => .ret ?_) (fun g3=>?_)
 ·simp_all
 rw [bP g3] at e;have e:Qvi m=true:=e.symm;rw [Af e];refine Ay (Z92 m) ?_;rw [Ym];refine Az (fun g => .ret (by simp_all)) (fun g=>?_);rw [Af (Decidable.byContradiction fun x=>Ac g x)];refine Ay (Zaf m hn) ?_;rw [Ym];refine Az (fun g => .ret (by simp_all)) (fun g=>?_);rw [Af (Decidable.byContradiction fun x=>Ac g x)];have hl:=Qe8 (m:=m) (by omega) (by omega);refine Ay ⟨11,fun N hN=>Za1 hk (by omega) (by omega) (Qsq hf e) (by omega)⟩ ?_;exact Ay ⟨11,fun N hN=>Qxj (by omega) m.Type' ((Qq2 m).length:Int) (by omega)⟩ (.ret rfl)
theorem Zd4 (hk:m.Type'∈Qfq) (hf:Qnv m.Flags):TotP (fun N=>(Z7 N m).bind fun v11=>
 cond (!v11)
 (some 2)
 ((Zk N m).bind fun v14=>
 cond (Q0 .eql v14 0)
 ((Zp N m).bind fun v17=>
 cond (Q0 .eql v17 0)
 (cond (Q0 .gtr (wrap .i64 ((m.Name.length:Int)+(m.Data.length:Int))) 65535)
 (some 4)
 ((Zi N m).bind fun v21=>
 (Zc N m.Type' (v21.length:Int)).bind fun v23=>
 some v23.2))
 (some v17))
 (some v14))) (· = tlE m):=by
 unfold tlE;refine Ay ⟨101,fun N hN=>Z0z (by omega) m hk⟩ ?_;refine Az (fun g => .ret (by simp_all)) (fun g=>?_);have e:=bP g;rw [Af e];refine Ay (Z84 m) ?_;rw [Qx];refine Az (fun g=>?_) (fun g => .ret (by simp_all));rw [Af (Aa g)];refine Ay (Z8a m hn) ?_;rw [Qx];refine Az (fun g=>?_) (fun g => .ret (by simp_all));rw [Af (Aa g),Wc,show wrap .i64 ((m.Name.length:Int)+(m.Data.length:Int))=(m.Name.length:Int)+(m.Data.length:Int) by rw [IntKind.wrap_i64];omega];have hl:=Qe8 (m:=m) (by omega) (by omega);have hg:=Z6x e;refine Az (fun g => .ret ?_) (fun _=>?_)
 ·grind [hdX,Qlu]
 refine Ay ⟨11,fun N hN=>Zam hk (by omega) (by omega) (Qsq hf e) (by omega)⟩ ?_;exact Ay ⟨11,fun N hN=>Qxb (by omega) m.Type' ((Qq2 m).length:Int) (by omega)⟩ (.ret rfl)
theorem Z57:Tot (fun N=>Q4p N m) (snE m):=by
 refine Aw ?_;unfold Q4p snE;refine Ay (v:=decide (m.Type'∈Qfq)) (.of fun N=>?_) ?_
 ·grind [Q4l,Z4e,Ym,Qlu,Z48]
 refine Az (fun g => .ret (by simp_all)) (fun g=>?_);have hk:m.Type'∈Qfq:=Aa (bP g);rw [Af hk];refine Ay (.of fun N=>Y2v N m.Type' m.Flags) ?_;refine Az (fun g => .ret (by simp_all)) (fun g=>?_);have hf:=Qwd (bP g);rw [Af (bP g)];refine Ay (v:=Z2x m) (.of fun N=>?_) ?_
 ·grind [Q7z,Z2x,Qx]
 have tl:=Zc6 hn hd hk hf;refine Az (fun gw=>?_) (fun gw=>by simp_all);rw [Q08];refine Az (fun gn=>?_) (fun gn=>by simp_all);show TotP (fun N=>cond (!(zfl m.Flags)) _ _) _;refine Az (fun gz => .ret (by simp_all)) (fun gz=>by simp_all)
theorem Qwq:Tot (fun N=>Vy N m) (snE m):=by
 refine Aw ?_
 have key:∀ P:Nat->Option Int,(m.Type'∈Qfq->Qvl m.Type' m.Flags=true->TotP P (· = if Z2x m=true∧m.Name = []∧zfl m.Flags=false then 7 else tlE m))->TotP (fun N=>(X7 N m.Type').bind fun v2=>cond (!v2) (some 8) (cond (Q0 .eql m.Type' 254) (some 8) ((Wx N m.Type' m.Flags).bind fun v6=>cond (!v6) (some 7) (P N)))) (· = snE m):=fun P hP=>by
  unfold snE;refine Ay (.of fun N=>Z3q N m.Type') ?_;refine Az (fun g => .ret (by rw [Ae fun h=>by simp_all [Qlu]])) (fun g=>?_);rw [Qx];refine Az (fun g => .ret (by rw [Ae fun h=>(Qlu h).2 (Aa g)])) (fun g2=>?_);have hk:=Z48 (bP g) (Ac g2);rw [Af hk];refine Ay (.of fun N=>Zxt N m.Type' m.Flags) ?_;refine Az (fun g => .ret (by simp_all)) (fun g=>?_)
  simp_all
 have tl:m.Type'∈Qfq->Qvl m.Type' m.Flags=true->¬ (Z2x m=true∧m.Name = []∧zfl m.Flags=false)->TotP (fun N=>(Z7 N m).bind fun v11=>
   cond (!v11)
   (some 2)
   ((Zk N m).bind fun v14=>
   cond (Q0 .eql v14 0)
   ((Zp N m).bind fun v17=>
   cond (Q0 .eql v17 0)
   (cond (Q0 .gtr (wrap .i64 ((m.Name.length:Int)+(m.Data.length:Int))) 65535)
   (some 4)
   ((Zi N m).bind fun v21=>
   (Zc N m.Type' (v21.length:Int)).bind fun v23=>
   some v23.2))
   (some v17))
   (some v14))) (· = if Z2x m=true∧m.Name = []∧zfl m.Flags=false then 7 else tlE m):=fun hk hm hw=>by
  rw [Ae hw];grind [Zd4,Qwd]
 have wil:Z2x m=true->m.Type'∈Qfq->Qvl m.Type' m.Flags=true->TotP (fun N=>cond (Q10 .eql m.Name []) (cond (!(zfl m.Flags)) (some 7) ((Z7 N m).bind fun v11=>
   cond (!v11)
   (some 2)
   ((Zk N m).bind fun v14=>
   cond (Q0 .eql v14 0)
   ((Zp N m).bind fun v17=>
   cond (Q0 .eql v17 0)
   (cond (Q0 .gtr (wrap .i64 ((m.Name.length:Int)+(m.Data.length:Int))) 65535)
   (some 4)
   ((Zi N m).bind fun v21=>
   (Zc N m.Type' (v21.length:Int)).bind fun v23=>
   some v23.2))
   (some v17))
   (some v14)))) ((Z7 N m).bind fun v11=>
   cond (!v11)
   (some 2)
   ((Zk N m).bind fun v14=>
   cond (Q0 .eql v14 0)
   ((Zp N m).bind fun v17=>
   cond (Q0 .eql v17 0)
   (cond (Q0 .gtr (wrap .i64 ((m.Name.length:Int)+(m.Data.length:Int))) 65535)
   (some 4)
   ((Zi N m).bind fun v21=>
   (Zc N m.Type' (v21.length:Int)).bind fun v23=>
   some v23.2))
   (some v17))
   (some v14)))) (· = if Z2x m=true∧m.Name = []∧zfl m.Flags=false then 7 else tlE m):=fun hw hk hm=>by
  rw [Q08];refine Az (fun gn=>?_) (fun gn=>tl hk hm fun x=>Ac gn x.2.1);exact Az (fun gz => .ret (by simp_all)) (fun gz=>tl hk hm fun x=>by simp_all)
 unfold Vy;rw [Qx,Qx];refine Az (fun g=>key _ (wil (Ad (.inl (Aa g))))) (fun g7=>?_);refine Az (fun g=>key _ (wil (Ad (.inr (Aa g))))) (fun g26=>?_);have hw:Z2x m=false:=Ab (by have:=Ac g7;have:=Ac g26;omega)
 refine key _ fun hk hm=>tl hk hm fun x=>by simp_all
theorem Z5n:Tot (fun N=>Gk N m) (if snE m=0 then (snY m,0) else ([],snE m)):=by
 refine Aw ?_;unfold Gk;refine Ay (Z57 hn hd) ?_;rw [Ym];refine Az (fun g => .ret (by simp_all)) (fun g=>?_);have h0:snE m=0:=Decidable.byContradiction fun x=>Ac g x;obtain ⟨hk,hf,hr,hx⟩:=Zo6 h0;have hl:=Qe8 (m:=m) (by omega) (by omega);rw [Af h0];refine Ay ⟨11,fun N hN=>Za1 hk (by omega) (by omega) (Qsq hf hr) (by omega)⟩ ?_;refine Ay ⟨11,fun N hN=>Qxj (by omega) m.Type' ((Qq2 m).length:Int) (by omega)⟩ ?_;rw [hx];refine Az (fun g=>nomatch g) (fun _=>?_);refine AA (by grind [Nat.ble_eq,hdS,Q0c]) (.ret rfl)
theorem Z7r:Tot (fun N=>U1 N m) (if snE m=0 then (snY m,0) else ([],snE m)):=by
 refine Aw ?_;unfold U1;refine Ay (Qwq hn hd) ?_;rw [Ym];refine Az (fun g => .ret (by simp_all)) (fun g=>?_);have h0:snE m=0:=Decidable.byContradiction fun x=>Ac g x;obtain ⟨hk,hf,hr,hx⟩:=Zo6 h0;have hl:=Qe8 (m:=m) (by omega) (by omega);rw [Af h0];refine Ay ⟨11,fun N hN=>Zam hk (by omega) (by omega) (Qsq hf hr) (by omega)⟩ ?_;refine Ay ⟨11,fun N hN=>Qxb (by omega) m.Type' ((Qq2 m).length:Int) (by omega)⟩ ?_;rw [hx];refine AA (by grind [Nat.ble_eq,hdS,Q0c]) (.ret rfl)
end
end
end Go.Av
namespace Go.Av
noncomputable section
set_option maxHeartbeats 4000000
def Qci (h:Vc):Bool:=decide (h.Radius≥0)&&(decide (h.Radius≤3)&&(decide ((h.Node.length:Int)≥1)&&decide ((h.Node.length:Int)≤32)))
theorem Z90 (N:Nat) (h:Vc):Q18 N h=some (Qci h):=by
 grind [Q18,Qci,Gm,Uy]
theorem Zd3 (N:Nat) (h:Vc):Q04 N h=some (Qci h):=by
 grind [Q04,Qci,Gm,Uy]
def Z19 (h:Vc):List UInt8:=Q4k (h.Node.length+3) 1++(Q4k 254 1++(Q4k h.Radius.toNat 1++h.Node))
theorem Qzy {h:Vc} (g:Qci h=true):(0≤h.Radius∧h.Radius≤3)∧1≤h.Node.length∧h.Node.length≤32:=by
 grind [Qci]
theorem Qma {h:Vc} (g:Qci h=true):(Z19 h).length≤35:=by
 have:=Qzy g
 grind [Z19,Q0c]
theorem Zd8 {N:Nat} (hN:10<N) {h:Vc} (g:Qci h=true):Jc N h=some (Z19 h):=by
 obtain ⟨h1,h2,h3⟩:=Qzy g
 have pt:∀ (x:Int) (w:Nat),0≤x∧x≤65535->w≤8->Z2 N (wrap .u64 x) (w:Int)=some (Q4k x.toNat w):=fun x w h hw=>by
  grind [Qmt,Z49]
 unfold Jc
 have e3:wrap .i64 (3+(h.Node.length:Int))=((h.Node.length+3:Nat):Int):=dn
 rw [e3];have p1:=pt ((h.Node.length+3:Nat):Int) 1 (by omega) (by omega);have p2:=pt 254 1 (by omega) (by omega);have p3:=pt h.Radius 1 (by omega) (by omega);rw [show wrap .u64 254=(254:Int) from rfl] at p2
 grind [Q0c,Nat.ble_eq,Z19]
def Qq1 (l:List Vc):List UInt8:=l.flatMap Z19
theorem Qsn {l:List Vc} {i:Nat} (hi:i<l.length):Qq1 (l.drop i)=Z19 l[i]++Qq1 (l.drop (i+1)):=by
 grind [Qq1,List.drop_eq_getElem_cons]
theorem Qst {l:List Vc} (hg:l.all Qci=true):(Qq1 l).length≤35 * l.length:=by
 induction l<;>grind [Qq1,Qma]
def Zal (l:Yq):Bool:=decide (l.MaxPacket≥16)&&(decide (l.MaxPacket≤1048576)&&(decide (l.MaxDepth≥0)&&decide (l.MaxDepth≤32)))
theorem Zcp (N:Nat) (l:Yq):Q3s N l=some (Zal l):=by
 grind [Q3s,Zal,Gm,Uy]
theorem Z3i (N:Nat) (l:Yq):Vu N l=some (Zal l):=by
 grind [Vu,Zal,Gm,Uy]
def dgE (d:Qb) (l:Yq):Int:=if Zal l=true then (if d.Hops.length>4 then 12 else if d.Hops.all Qci=true then (if snE d.Msg=0 then (if (((Qq1 d.Hops).length+(snY d.Msg).length:Nat):Int)>l.MaxPacket then 4 else 0) else snE d.Msg) else 2) else 2
def dgB (d:Qb):List UInt8:=Qq1 d.Hops++snY d.Msg
section
variable {d:Qb} (hn:d.Msg.Name.length≤70000) (hd:d.Msg.Data.length≤70000)
include hn hd
theorem Qzl (h0:snE d.Msg=0):(snY d.Msg).length≤500000:=by
 grind [Qe8,snY,hdS,Q0c]
omit hn hd in
theorem Qzd {L:Nat->List UInt8->Int->Option (List UInt8×Int)} {Z:List UInt8->Option (List UInt8×Int)} (N:Nat) (hN:10<N) (hh:d.Hops.length≤4) (hg:d.Hops.all Qci=true)
  (hL:∀ n o s,L (n+1) o s=cond (Q0 .lss s ((Q7 Vc.cells d.Hops).length:Int)) ((idx d.Hops s).bind fun y46=>(Jc N y46).bind fun v48=>cond (Nat.ble (o.length+v48.length) 4611686018427387904) (L n (o++v48) (wrap .i64 (s+1))) none) (Z o)) :
  ∀ (j i:Nat) (o:List UInt8),i≤d.Hops.length->d.Hops.length<j+i->o.length≤100 * i->L j o (i:Int)=Z (o++Qq1 (d.Hops.drop i))
 | 0,i,o,h1,h2,_=>by omega
 | j+1,i,o,h1,h2,ho=>by
  rw [hL,Q6,Qn]
  by_cases hi:i<d.Hops.length
  ·rw [Ad (show (i:Int)<(d.Hops.length:Int) by omega)];show (idx d.Hops (i:Int)).bind _=_;have hk:Qci d.Hops[i]=true:=Ln.1 hg _ (Mc hi);have hp:=Qma hk;rw [show idx d.Hops (i:Int)=some d.Hops[i] from dX,Lf,Zd8 hN hk,Lf,show Nat.ble (o.length+(Z19 d.Hops[i]).length) 4611686018427387904=true from bT,show wrap .i64 ((i:Int)+1)=((i+1:Nat):Int) by rw [IntKind.wrap_i64];omega];show L j (o++Z19 d.Hops[i]) ((i+1:Nat):Int)=_;rw [Qzd N hN hh hg hL j (i+1) _ (by omega) (by omega) (by grind),Qsn hi,List.append_assoc]
  grind [Qq1]
omit hn hd in
theorem Qvr {l:Yq} (N:Nat) (hM:Gk N d.Msg=some (snY d.Msg,0)):∀ (j i:Nat),i≤d.Hops.length->d.Hops.length≤4->d.Hops.length<j+i->(d.Hops.take i).all Qci=true->X1 N d l j (i:Int)=if d.Hops.all Qci=true then Jg N d l (snY d.Msg,0) N [] 0 else some ([],2)
 | 0,i,h1,h3,h2,_=>by omega
 | j+1,i,h1,h3,h2,ht=>by
  rw [X1,Q6,Qn]
  by_cases hi:i<d.Hops.length
  ·rw [Ad (show (i:Int)<(d.Hops.length:Int) by omega)];show (idx d.Hops (i:Int)).bind _=_;rw [show idx d.Hops (i:Int)=some d.Hops[i] from dX,Lf];unfold Q27;rw [Z90,Lf,Lf]
   cases hk:Qci d.Hops[i] with
   | false=>
    grind [Gm]
   | true=>
    show X1 N d l j _=_;rw [show wrap .i64 ((i:Int)+1)=((i+1:Nat):Int) by rw [IntKind.wrap_i64];omega,Qvr N hM j (i+1) (by omega) h3 (by omega) (dU)]
  rw [Ab (by omega),Af (by grind)];show (Gk N d.Msg).bind _=_;rw [hM];rfl
omit hn hd in
theorem Qsd {l:Yq} (N:Nat) (h0:snE d.Msg≠0) (hM:Gk N d.Msg=some ([],snE d.Msg)):∀ (j i:Nat),i≤d.Hops.length->d.Hops.length≤4->d.Hops.length<j+i->(d.Hops.take i).all Qci=true->X1 N d l j (i:Int)=if d.Hops.all Qci=true then some ([],snE d.Msg) else some ([],2)
 | 0,i,h1,h3,h2,_=>by omega
 | j+1,i,h1,h3,h2,ht=>by
  rw [X1,Q6,Qn]
  by_cases hi:i<d.Hops.length
  ·rw [Ad (show (i:Int)<(d.Hops.length:Int) by omega)];show (idx d.Hops (i:Int)).bind _=_;rw [show idx d.Hops (i:Int)=some d.Hops[i] from dX,Lf];unfold Q27;rw [Z90,Lf,Lf]
   cases hk:Qci d.Hops[i] with
   | false=>
    grind [Gm]
   | true=>
    show X1 N d l j _=_;rw [show wrap .i64 ((i:Int)+1)=((i+1:Nat):Int) by rw [IntKind.wrap_i64];omega,Qsd N h0 hM j (i+1) (by omega) h3 (by omega) (dU)]
  simp_all [Ab,List.take_of_length_le,Ym]
theorem Z6u (l:Yq):Tot (fun N=>Q3m N d l) (if dgE d l=0 then (dgB d,0) else ([],dgE d l)):=by
 refine Aw ?_;unfold Q3m;refine Ay (.of fun N=>Zcp N l) ?_;refine Az (fun g => .ret ?_) (fun g=>?_)
 ·simp_all [dgE]
 have hr:=bP g;rw [Q6,Wc];refine Az (fun g => .ret ?_) (fun g=>?_)
 ·grind [dgE]
 have hh:¬ d.Hops.length>4:=by grind
 have hM:=Z5n hn hd
 by_cases h0:snE d.Msg=0
 ·rw [Af h0] at hM;obtain ⟨K,hK⟩:=hM;refine ⟨_,rfl,max K 11,fun N hN=>?_⟩;have hM:=hK N (by omega);have hsl:=Qzl hn hd h0;show X1 N d l N ((0:Nat):Int)=_;rw [Qvr N hM N 0 (by omega) (by omega) (by omega) rfl]
  by_cases hg:d.Hops.all Qci=true
  ·have hhl:=Qst hg;rw [Af hg];have:=Qzd (d:=d) (L:=Jg N d l (snY d.Msg,0)) (Z:=fun o=>cond (Q0 .gtr (wrap .i64 ((o.length:Int)+((snY d.Msg).length:Int))) l.MaxPacket) (some ([],4)) (cond (Nat.ble (o.length+(snY d.Msg).length) 4611686018427387904) (some ((o++snY d.Msg),0)) none)) N (by omega) (by omega) hg (fun n o s=>by rfl) N 0 [] (by omega) (by omega) (by simp);rw [show ((0:Nat):Int)=0 from rfl] at this;rw [this,Nm,Br,Wc,show wrap .i64 (((Qq1 d.Hops).length:Int)+((snY d.Msg).length:Int))=(((Qq1 d.Hops).length+(snY d.Msg).length:Nat):Int) by rw [IntKind.wrap_i64];omega]
   by_cases hx:(((Qq1 d.Hops).length+(snY d.Msg).length:Nat):Int)>l.MaxPacket
   ·simp_all [dgE,Ae]
   have:dgE d l=0:=by simp_all [dgE,Ae]
   rw [Ab hx,this,Af rfl,show Nat.ble ((Qq1 d.Hops).length+(snY d.Msg).length) 4611686018427387904=true from bT];rfl
  simp_all [dgE,Ae]
 rw [Ae h0] at hM;obtain ⟨K,hK⟩:=hM;refine ⟨_,rfl,max K 11,fun N hN=>?_⟩<;>grind [Qsd,dgE]
theorem Qgz (l:Yq):Tot (fun N=>Xa N d l) (dgE d l):=by
 refine Aw ?_;unfold Xa;refine Ay (Z6u hn hd l) (.ret ?_)<;>grind
omit hn hd in
theorem Qo8 (N:Nat) {s:List UInt8} (hM:U1 N d.Msg=some (s,0)) (hs:s.length≤500000) (hh:d.Hops.length≤4) (hg:d.Hops.all Qci=true) :
  ∀ (j i:Nat) (o:List UInt8),i≤d.Hops.length->d.Hops.length<j+i->o.length≤100 * i->Yb N d j o (i:Int)=some (o++Qq1 (d.Hops.drop i)++s)
 | 0,i,o,h1,h2,_=>by omega
 | j+1,i,o,h1,h2,ho=>by
  rw [Yb,Q6,Qn]
  by_cases hi:i<d.Hops.length
  ·rw [Ad (show (i:Int)<(d.Hops.length:Int) by omega)];show (idx d.Hops (i:Int)).bind _=_;have hk:Qci d.Hops[i]=true:=Ln.1 hg _ (Mc hi);have hp:=Qma hk;rw [show idx d.Hops (i:Int)=some d.Hops[i] from dX,Lf];obtain ⟨hb1,hb2,hb3⟩:=Qzy hk
   have e1 : [UInt8.ofNat (wrap .u8 (wrap .i64 ((d.Hops[i].Node.length:Int)+3))).toNat,UInt8.ofNat (Int.toNat 254),UInt8.ofNat (wrap .u8 d.Hops[i].Radius).toNat]=Q4k (d.Hops[i].Node.length+3) 1++(Q4k 254 1++Q4k d.Hops[i].Radius.toNat 1):=by grind [Z7t,Q4k,IntKind.wrap_i64]
   rw [e1]
   have l1:(Q4k (d.Hops[i].Node.length+3) 1++(Q4k 254 1++Q4k d.Hops[i].Radius.toNat 1)).length=3:=by rfl
   rw [l1,show Nat.ble (o.length+3) 4611686018427387904=true from bT,Mp,l1,show Nat.ble (o.length+3+d.Hops[i].Node.length) 4611686018427387904=true from bT,show wrap .i64 ((i:Int)+1)=((i+1:Nat):Int) by rw [IntKind.wrap_i64];omega];show Yb N d j _ ((i+1:Nat):Int)=_;rw [Qo8 N hM hs hh hg j (i+1) _ (by omega) (by omega) (by grind),Qsn hi]
   simp_all [Z19]
  grind [Nat.ble_eq,Qq1]
theorem Z31 (h0:snE d.Msg=0) (hh:d.Hops.length≤4) (hg:d.Hops.all Qci=true):Tot (fun N=>Q0o N d) (dgB d):=by
 have hM:=Z7r hn hd;rw [Af h0] at hM;obtain ⟨K,hK⟩:=hM;refine ⟨max K 11,fun N hN=>?_⟩;have:=Qo8 N (hK N (by omega)) (Qzl hn hd h0) hh hg N 0 [] (by omega) (by omega) (by simp);rw [show ((0:Nat):Int)=0 from rfl] at this;show Yb N d N [] 0=_;rw [this];rfl
theorem Qqk (l:Yq):Tot (fun N=>X5 N d l) (dgE d l):=by
 refine Aw ?_;unfold X5;refine Ay (.of fun N=>Z3i N l) ?_;refine Az (fun g => .ret ?_) (fun g=>?_)
 ·simp_all [dgE]
 have hr:=bP g;rw [Q6,Wc];refine Az (fun g => .ret ?_) (fun g=>?_)
 ·grind [dgE]
 have hh:¬ d.Hops.length>4:=by grind
 refine Qar (L:=fun N m (q:Int)=>Wp N d l m q) (fun q=>∃ i:Nat,q=(i:Int)∧i≤d.Hops.length∧(d.Hops.take i).all Qci=true) (fun q=>(d.Hops.length - q).toNat) ?_ 0 ⟨0,rfl,by omega,rfl⟩
 rintro q ⟨i,rfl,h1,h2⟩
 show Stp _ _ _ (fun N m=>cond (Q0 .lss (i:Int) ((Q7 Vc.cells d.Hops).length:Int)) _ _);rw [Q6,Qn];refine AG (fun g=>?_) (fun g=>AB ?_)
 ·have g:i<d.Hops.length:=by simp_all
  refine AF (y:=d.Hops[i]) dX ?_;refine AE (V:=fun v=>v=Qci d.Hops[i]) ⟨_,rfl,0,fun N _=>Zd3 N _⟩ (fun v hv=>?_);subst hv;refine AG (fun gh=>AC ?_) (fun gh=>AD _ ⟨⟨i+1,gu,by omega,?_⟩,?_⟩)
  ·grind [dgE]
  ·exact dU
  exact dn
 have g:¬ i<d.Hops.length:=by simp_all
 have hg:d.Hops.all Qci=true:=by grind
 refine Ay (Qwq hn hd) ?_;rw [Qx];refine Az (fun g0=>?_) (fun g0 => .ret ?_)
 ·have h0:=Aa g0;refine Ay (Z31 hn hd h0 (by omega) hg) ?_;rw [Wc]
  have e:(dgB d).length=(Qq1 d.Hops).length+(snY d.Msg).length:=by simp_all [dgB]
  rw [e];refine Az (fun gx => .ret ?_) (fun gx => .ret ?_)<;>grind [dgE]
 simp_all [dgE,Ae]
end
end
end Go.Av
namespace Go.Av
noncomputable section
set_option maxHeartbeats 4000000
open Tp
theorem Qkr (R:Reg) (c:List UInt8) (id:Int):Qc1 R c id=match Q47 R c with | none=>([],11) | some C=>match Q50 id 0 C.all with | none=>([],11) | some (_,v)=>(v.1,0):=by
 grind [Qc1,Q47]
theorem Qru (R:Reg) (c n:List UInt8):rID R c n=match Q47 R c with | none=>(0,11) | some C=>match Q8g n 0 C.ids with | none=>(0,11) | some (_,id)=>(id,0):=by
 grind [rID,Q47]
theorem Z0v {l:List RTp} (h:(l.map (·.1)).Nodup) {i j:Nat} {a b:RTp} (ha:l[i]? = some a) (hb:l[j]? = some b) (e:a.1=b.1):a=b:=by
 obtain ⟨hi,rfl⟩:=Ld.1 ha;obtain ⟨hj,rfl⟩:=Ld.1 hb
 have h2:(l.map (·.1))[i]'(by simp_all)=(l.map (·.1))[j]'(by simp_all):=by simp_all
 grind [List.getElem_inj]
theorem Z6g {m:Nat} {R:Reg} (h:RI m R) {c n:List UInt8} {id:Int} (e:rID R c n=(id,0)):Qc1 R c id=(n,0):=by
 rw [Qru] at e;rw [Qkr]
 cases hc:Q47 R c with
 | none=>simp_all
 | some C=>
  rw [hc] at e;simp only [] at e ⊢;have hC:=h.get hc
  rcases Q35 n C.ids 0 with ⟨e1,hn⟩ | ⟨i,v,e1,_,hv⟩
  ·simp_all
  rw [e1] at e;cases e;rw [Bn,hC.ids,Ll] at hv
  cases hq:C.all[i]? with
  | none=>simp_all
  | some q=>
   rw [hq] at hv;obtain ⟨qi,qn,qb⟩:=q;simp only [Mq,Lb,Lg] at hv;obtain ⟨rfl,rfl⟩:=hv
   rcases Q4g qi C.all 0 with ⟨_,hn⟩ | ⟨j,w,e2,_,hw⟩
   ·grind
   rw [e2];rw [Bn] at hw;have:=Z0v hC.nd hq hw rfl
   grind
theorem Qys {m:Nat} {R:Reg} (h:RI m R) {c n:List UInt8} {k:Int} (hn:∀ C,Q47 R c=some C->n ∉ C.ids.map (·.1)) (hk:k ∉ (Qm6 R c).map (·.1)) (hlow:∀ j:Int,1≤j->j<k->j∈(Qm6 R c).map (·.1)) (h1:1≤k∧k≤65534) :
  (Qil true R c n).1.2.2=0∧∃ C2:RCl,Q47 (Qil true R c n).2 c=some C2∧C2.all=Qm6 R c ++ [(k,n,false)]:=by
 rw [Qtk,Af ⟨rfl,rfl⟩];unfold Qil;rw [Af rfl];rw [Q5y] at hk hlow ⊢
 cases hc:Q47 R c with
 | none=>
  rw [hc] at hk hlow
  have:k=1:=by
   by_cases e:k=1
   ·exact e
   have:=hlow 1 (Ce _) (by omega);simp_all
  subst this;exact ⟨rfl,_,rfl,rfl⟩
 | some C=>
  rw [hc] at hk hlow;simp only [] at hk hlow ⊢;have hC:=h.get hc;have hw:=hC.wc;unfold Qoe;simp only []
  rcases Q35 n C.ids 0 with ⟨e,_⟩ | ⟨i,v,e,_,hv⟩
  rotate_left
  ·grind
  rw [e]
  obtain ⟨id,nx,hl,_,_,_⟩:=Qbt C.all 65536 C.next hw.2.1 hw.2.2 (by have:=hw.2.1;omega)
  simp only [hl]
  have hkn:C.next≤k:=by
   by_cases g:C.next≤k
   ·exact g
   exact absurd (hC.low k h1.1 (by omega)) hk
  by_cases h0:id=0
  ·subst h0;obtain ⟨g1,_,g2⟩:=Qco C.all _ _ _ hw.2.1 hw.2.2 hl
   grind
  obtain ⟨g1,g2,_,g4,g5⟩:=Qcl C.all _ _ _ _ hl h0
  grind
section
variable {m:Nat} {R:Reg} (h:RI m R) (hm:m≤1000) {c:List UInt8} {msg:Xl} (hnm:Q0j msg.Name=true) (hln:msg.Name.length≤70000) (hid:1≤msg.TopicID∧msg.TopicID≤65534)
                        
theorem Qn1 {l:List RTp} (hn:(l.map (·.1)).Nodup):(Qac l).Pairwise (fun a b=>a.1<b.1):=by
 have h1:=Q5b l;have h2:((Qac l).map (·.1)).Nodup:=(((Q01 l).map (·.1)).nodup_iff).2 hn
 have h3:(Qac l).Pairwise (fun a b=>a.1≠b.1):=by grind
 exact (h1.and h3).imp fun ⟨a,b⟩=>by omega
end
theorem Z1b (l:List Qs) (hl:l.length≤1000000):TotP (fun N=>Qw N l l) (· = true):=by
 unfold Qw;rw [Ym];refine Az (fun g=>absurd rfl (Aa g)) (fun _=>?_);refine Q6t (L:=fun N k s=>Yt N l l k s) l.length (fun _=>True) (fun i hi _=>?_) (fun _=>?_) trivial
 ·show Stp _ _ _ (fun N k=>cond (Q0 .lss (i:Int) ((Q7 Qs.cells l).length:Int)) _ _);rw [Q6,Qn];refine AG (fun _=>?_) (fun h=>absurd (Ac h) (by omega));refine AF (Z0 hi) ?_;refine AF (Z0 hi) ?_;refine AG (fun h=>by simp_all) (fun _=>?_);rw [w64 _ (by omega)]
  exact i6
 show Stp _ _ _ (fun N k=>cond (Q0 .lss ((l.length:Nat):Int) ((Q7 Qs.cells l).length:Int)) _ _)
 simp_all [Q6,AG,AC]
end
end Go.Av
namespace Go.Av
noncomputable section
set_option maxHeartbeats 4000000
open Tp
theorem Qsy:∀ x:List UInt8,Op.bytesLess x x=false
 | []=>rfl
 | a::x=>by
  simp only [Op.bytesLess];simp [Qsy x]
theorem Qn9:∀ x y z:List UInt8,Op.bytesLess x y=true->Op.bytesLess y z=true->Op.bytesLess x z=true
 | _,_,[],_,h=> fg
 | _,[],_::_,h,_=> fg
 | [],_::_,_::_,_,_=>by rfl
 | a::x,b::y,c::z,h1,h2=>by
  simp only [Op.bytesLess,Nl,Le,Ag,Aj] at h1 h2 ⊢
  rcases h1 with h1 | ⟨rfl,h1⟩
  ·grind
  rcases h2 with h2 | ⟨rfl,h2⟩
  ·simp_all
  exact .inr ⟨rfl,Qn9 x y z h1 h2⟩
theorem Z3f:∀ x y:List UInt8,x≠y->Op.bytesLess x y=true∨Op.bytesLess y x=true
 | [],[],h=>absurd rfl h
 | [],_::_,_ => .inl rfl
 | _::_,[],_ => .inr rfl
 | a::x,b::y,h=>by
  simp only [Op.bytesLess,Nl,Le,Ag,Aj]
  by_cases e:a=b
  ·subst e
   rcases Z3f x y (fun e=>h (by rw [e])) with g | g<;>simp_all
  grind
abbrev Ent:=Q5
def Qwb (t:Qs):List Qs->List Qs
 | [] => [t]
 | u::l=>if t.ID<u.ID then t::u::l else u::Qwb t l
def Qcc (c:List UInt8) (l:List Qs):Bool->List Ent->List Ent
 | b,[]=>if b then [] else [⟨c,l⟩]
 | b,x::r=>if (!b&&Op.bytesLess c x.client)=true then ⟨c,l⟩::(if x.client≠c then x::Qcc c l true r else Qcc c l true r) else (if x.client≠c then x::Qcc c l b r else Qcc c l b r)
def Qf2 (c:List UInt8):List Ent->Option (List Qs)
 | []=>none
 | x::r=>if x.client=c then some x.l else Qf2 c r
theorem Qmn (t:Qs):∀ l,(Qwb t l).length=l.length+1
 | []=>rfl
 | u::l=>by
  unfold Qwb;split
  ·rfl
  simp [Qmn t l]
theorem Z8x (l:List Qs) (t:Qs) (hl:l.length≤100000):TotP (fun N=>Jh N l t) (· = Qwb t l):=by
 unfold Jh;refine Qar (S:=Bool×Int×List Qs) (L:=fun N n s=>Zy N l t n s.1 s.2.1 s.2.2) (fun s=>∃ i:Nat,s.2.1=(i:Int)∧i≤l.length∧s.2.2.length≤i+s.1.toNat∧s.2.2++(if s.1 then l.drop i else Qwb t (l.drop i))=Qwb t l) (fun s=>l.length - s.2.1.toNat) ?_ (false,0,[]) ⟨0,rfl,Lk _,Lk _,rfl⟩
 rintro ⟨b,j,acc⟩ ⟨i,hj,hi,ha,hacc⟩
 simp only at hj ha hacc
 subst hj
 have hb1:b.toNat≤1:=by grind
 show Stp _ _ _ (fun N n=>cond (Q0 .lss (i:Int) ((Q7 Qs.cells l).length:Int)) _ _);rw [Q6,Qn]
 have chk:∀ k:Nat,k≤200000->Nat.ble ((k+4096) * 32) 17592186044416=true:=fun k hk=> bT
 refine AG (fun g=>?_) (fun g=>?_)
 ·have hlt:i<l.length:=by simp_all
  have hd:l.drop i=l[i]::l.drop (i+1):=Lz hlt;rw [w64 _ (by grind)];dsimp only
  cases b with
  | false=>
   refine AG (fun _=>?_) (fun h=>by cases h);refine AF (Z0 hlt) ?_;rw [Qn];rw [hd] at hacc;simp only [Mg,Al,Qwb] at hacc;refine AG (fun g2=>?_) (fun g2=>?_)
   ·rw [Af (Aa g2)] at hacc;refine AH (chk (acc.length+1) (by omega)) ?_;refine AF (Z0 hlt) ?_;refine AH (chk (acc.length+1+1) (by omega)) ?_;exact AD (L:=fun N n (s:Bool×Int×List Qs)=>Zy N l t n s.1 s.2.1 s.2.2) (true,(i:Int)+1,(acc ++ [t]) ++ [l[i]]) ⟨⟨i+1,rfl,hlt,by simp_all,by simp_all⟩,by grind⟩
   rw [Ae (Ac g2)] at hacc;refine AF (Z0 hlt) ?_;refine AH (chk (acc.length+1) (by omega)) ?_;exact AD (L:=fun N n (s:Bool×Int×List Qs)=>Zy N l t n s.1 s.2.1 s.2.2) (false,(i:Int)+1,acc ++ [l[i]]) ⟨⟨i+1,rfl,hlt,by simp_all,by simp_all⟩,by grind⟩
  | true=>
   refine AG (fun h=>by cases h) (fun _=>?_);refine AF (Z0 hlt) ?_;refine AH (chk (acc.length+1) (by omega)) ?_;rw [hd] at hacc;exact AD (L:=fun N n (s:Bool×Int×List Qs)=>Zy N l t n s.1 s.2.1 s.2.2) (true,(i:Int)+1,acc ++ [l[i]]) ⟨⟨i+1,rfl,hlt,by simp_all,by simp_all⟩,by grind⟩
 have e:i=l.length:=by grind
 subst e;rw [By] at hacc
 cases b with
 | false=>
  exact eI
 | true=>
  simp_all [AC]
theorem Z82 (o:Q2) (c:List UInt8) (l:List Qs) (hl:o.L.length≤100000):TotP (fun N=>Xe N o c l) (fun r=>r.2.L=Qcc c l (decide (l = [])) o.L):=by
 have e0:Q0 .eql ((Q7 Qs.cells l).length:Int) 0=decide (l = []):=by simp_all [Q6,Qx]
 unfold Xe;rw [e0];generalize decide (l = [])=b0;refine Qar (S:=Bool×Int×List Ent) (L:=fun N n s=>Qj N o c l n s.1 s.2.1 s.2.2) (fun s=>∃ i:Nat,s.2.1=(i:Int)∧i≤o.L.length∧s.2.2.length≤i+s.1.toNat∧s.2.2++Qcc c l s.1 (o.L.drop i)=Qcc c l b0 o.L) (fun s=>o.L.length - s.2.1.toNat) ?_ (b0,0,[]) ⟨0,rfl,Lk _,Lk _,rfl⟩
 rintro ⟨b,j,acc⟩ ⟨i,hj,hi,ha,hacc⟩
 simp only at hj ha hacc
 subst hj
 have hb1:b.toNat≤1:=by cases b<;>decide
 show Stp _ _ _ (fun N n=>cond (Q0 .lss (i:Int) ((Q7 Q5.cells o.L).length:Int)) _ _);rw [Q6,Qn]
 have chk:∀ k:Nat,k≤200000->Nat.ble ((k+4096) * 40) 17592186044416=true:=fun k hk=> bT
 have go:∀ (b':Bool) (acc':List Ent),i<o.L.length->acc'.length≤i+1+b'.toNat->acc'++Qcc c l b' (o.L.drop (i+1))=Qcc c l b0 o.L->Stp (fun N n (s:Bool×Int×List Ent)=>Qj N o c l n s.1 s.2.1 s.2.2) _ (fun r:Unit×Q2=>r.2.L=Qcc c l b0 o.L) (fun N n=>Qj N o c l n b' (wrap .i64 ((i:Int)+1)) acc'):=fun b' acc' hlt h1 h2=>by
  rw [w64 _ (by omega)];exact AD (L:=fun N n (s:Bool×Int×List Ent)=>Qj N o c l n s.1 s.2.1 s.2.2) (P:=fun s'=>(∃ i:Nat,s'.2.1=(i:Int)∧i≤o.L.length∧s'.2.2.length≤i+s'.1.toNat∧s'.2.2++Qcc c l s'.1 (o.L.drop i)=Qcc c l b0 o.L)∧o.L.length - s'.2.1.toNat<o.L.length - ((i:Nat):Int).toNat) (b',(i:Int)+1,acc') ⟨⟨i+1,rfl,hlt,h1,h2⟩,by grind⟩
 refine AG (fun g=>?_) (fun g=>?_)
 ·have hlt:i<o.L.length:=by simp_all
  have hd:o.L.drop i=o.L[i]::o.L.drop (i+1):=Lz hlt;rw [hd] at hacc;refine AF (Z0 hlt) ?_
  cases b with
  | false=>
   refine AG (fun _=>?_) (fun h=>by cases h);refine AG (fun g2=>?_) (fun g2=>?_)
   ·have g2:(!false&&Op.bytesLess c o.L[i].client)=true:=g2;simp only [Qcc] at hacc;rw [Af g2] at hacc;refine AH (chk (acc.length+1) (by omega)) ?_;rw [Q60];refine AG (fun g3=>?_) (fun g3=>?_)
    ·rw [Af (Aa g3)] at hacc;refine AH (chk (acc.length+1+1) (by omega)) ?_<;>simp_all
    rw [Ae (Ac g3)] at hacc;exact go true _ hlt (by grind) (by simp_all)
   have g2:¬ (!false&&Op.bytesLess c o.L[i].client)=true:=by simp_all [Q10]
   simp only [Qcc] at hacc;rw [Ae g2] at hacc;rw [Q60];refine AG (fun g3=>?_) (fun g3=>?_)
   ·exact fU
   grind
  | true=>
   refine AG (fun h=>by cases h) (fun _=>?_);simp only [Qcc] at hacc;rw [Ae (by simp)] at hacc;rw [Q60];refine AG (fun g3=>?_) (fun g3=>?_)
   ·exact fU
   grind
 have e:i=o.L.length:=by grind
 subst e;rw [By] at hacc
 cases b with
 | false=>
  exact eI
 | true=>
  simp_all [AC,Qcc]
theorem Z0y (o:Q2) (c:List UInt8) (hl:o.L.length≤100000) (he:∀ e∈o.L,e.l.length≤100000):TotP (fun N=>Qf N o c) (· = ((Qf2 c o.L).getD [],o)):=by
 unfold Qf;refine Q6t (L:=fun N k s=>Y5 N o c k s) o.L.length (fun i=>Qf2 c o.L=Qf2 c (o.L.drop i)) (fun i hi hf=>?_) (fun hf=>?_) rfl
 ·show Stp _ _ _ (fun N k=>cond (Q0 .lss (i:Int) ((Q7 Q5.cells o.L).length:Int)) _ _);rw [Q6,Qn];refine AG (fun _=>?_) (fun h=>absurd (Ac h) (by omega));refine AF (Z0 hi) ?_;rw [Lz hi] at hf;rw [Q08];refine AG (fun g=>?_) (fun g=>?_)
  ·have g:=Aa g;refine AF (Z0 hi) ?_;simp only [Qf2] at hf;rw [Af g] at hf;have hlen:=he _ (Mc hi);refine AG (fun g2=>AC ?_) (fun g2=>AH (by grind [Nat.ble_eq,Q6]) (AC ?_))
   ·simp_all [Q6]
   simp_all
  have g:=Ac g;simp only [Qf2] at hf;rw [Ae g] at hf;rw [w64 _ (by omega)]
  exact i6
 show Stp _ _ _ (fun N k=>cond (Q0 .lss ((o.L.length:Nat):Int) ((Q7 Q5.cells o.L).length:Int)) _ _);rw [Q6,Qn];rw [By] at hf;exact AG (fun h=>absurd (Aa h) (by omega)) (fun _=>AC (by rw [hf];rfl))
def SE (L:List Ent):Prop:=L.Pairwise fun a b=>Op.bytesLess a.client b.client=true
theorem Q9t (c:List UInt8) (l:List Qs):∀ L:List Ent,Qcc c l true L=L.filter fun x=>decide (x.client≠c)
 | []=>rfl
 | x::r=>by
  simp only [Qcc];rw [Ae (by simp)]
  by_cases h:x.client≠c
  ·rw [Af h,Bz (by simp_all),Q9t c l r]
  rw [Ae h,Ca (by simp_all),Q9t c l r]
theorem Qeq (c d:List UInt8):∀ L:List Ent,Qf2 d (L.filter fun x=>decide (x.client≠c))=if d=c then none else Qf2 d L
 | []=>by split<;>rfl
 | x::r=>by
  by_cases h:x.client≠c
  ·rw [Bz (by simp_all)];simp only [Qf2];rw [Qeq c d r]
   grind
  have h:=No.1 h;rw [Ca (by simp_all),Qeq c d r]
  grind [Qf2]
theorem Qiv {c:List UInt8} {l:List Qs} {y:Ent}:∀ (b:Bool) (L:List Ent),y∈Qcc c l b L->y=⟨c,l⟩∨y∈L
 | b,[],h=>by
  simp_all [Qcc]
 | b,x::r,h=>by
  simp only [Qcc] at h;split at h
  ·rcases Lx.1 h with e | e
   ·simp_all
   split at e
   ·rcases Lx.1 e with e | e
    ·simp_all
    rcases Qiv true r e with g | g<;>simp_all
   rcases Qiv true r e with g | g<;>simp_all
  split at h
  ·rcases Lx.1 h with e | e
   ·simp_all
   rcases Qiv b r e with g | g<;>simp_all
  rcases Qiv b r h with g | g<;>simp_all
theorem Qem (c:List UInt8) (l:List Qs):∀ L:List Ent,SE L->SE (Qcc c l false L)
 | [],_=>by simp [Qcc,SE]
 | x::r,h=>by
  obtain ⟨h1,h2⟩:=Mn.1 h;simp only [Qcc]
  by_cases g:Op.bytesLess c x.client=true
  ·rw [Af (by simp_all)];refine .cons (fun y hy=>?_) ?_
   ·grind [Q9t,Qn9]
   split
   ·refine .cons (fun y hy=>?_) ?_<;>grind [Q9t]
   grind [Q9t]
  rw [Ae (by simp_all)]
  by_cases e:x.client≠c
  ·rw [Af e]
   have hx:Op.bytesLess x.client c=true:=by grind [Z3f]
   refine .cons (fun y hy=>?_) (Qem c l r h2)
   rcases Qiv false r hy with q | q<;>simp_all
  rw [Ae e];exact Qem c l r h2
theorem Qq9 (c d:List UInt8) (l:List Qs):∀ L:List Ent,SE L->Qf2 d (Qcc c l false L)=if d=c then some l else Qf2 d L
 | [],_=>by
  grind [Qcc,Qf2]
 | x::r,h=>by
  obtain ⟨h1,h2⟩:=Mn.1 h;simp only [Qcc]
  by_cases g:Op.bytesLess c x.client=true
  ·rw [Af (by simp_all)];simp only [Qf2]
   by_cases e:d=c
   ·simp_all
   rw [Ae e,Ae (Ne.symm e)]
   have:∀ L2:List Ent,Qf2 d (Qcc c l true L2)=Qf2 d L2:=fun L2=>by rw [Q9t,Qeq,Ae e]
   grind [Qf2]
  rw [Ae (by simp_all)]
  by_cases hx:x.client≠c
  ·rw [Af hx];simp only [Qf2];rw [Qq9 c d l r h2]
   grind
  rw [Ae hx,Qq9 c d l r h2]
  grind [Qf2]
theorem Qzo (c:List UInt8) (l:List Qs):∀ (b:Bool) (L:List Ent),(Qcc c l b L).length≤L.length+1
 | b,[]=>by grind [Qcc]
 | b,x::r=>by
  simp only [Qcc];split
  ·grind [Q9t]
  have:=Qzo c l b r
  grind
def Z6c (t:RTp):List RTp->List RTp
 | [] => [t]
 | u::l=>if t.1<u.1 then t::u::l else u::Z6c t l
theorem Qxv (t:RTp):∀ l:List RTp,Qwb (Qan t) (l.map Qan)=(Z6c t l).map Qan
 | []=>rfl
 | u::l=>by
  simp only [Mv,Qwb,Z6c]
  by_cases h:t.1<u.1
  ·simp_all [Qan]
  rw [Ae (show ¬ (Qan t).ID<(Qan u).ID from h),Ae h,Qxv t l];rfl
theorem Qii (t:RTp):∀ l:List RTp,(Z6c t l).Perm (t::l)
 | [] => .refl _
 | u::l=>by
  unfold Z6c;split
  ·rfl
  exact ((Qii t l).cons u).trans (.swap t u l)
theorem Qi1 (t:RTp):∀ l:List RTp,l.Pairwise (fun a b=>a.1≤b.1)->(Z6c t l).Pairwise (fun a b=>a.1≤b.1)
 | [],_ => .cons (fun _ h=>by cases h) .nil
 | u::l,h=>by
  unfold Z6c;obtain ⟨h1,h2⟩:=Mn.1 h;split
  ·rename_i g;refine .cons (fun x hx=>?_) h<;>grind
  rename_i g;refine .cons (fun x hx=>?_) (Qi1 t l h2)<;>grind [Qii]
theorem Z2z {l:List RTp} {t:RTp} (h:((l ++ [t]).map (·.1)).Nodup):(Qac (l ++ [t])).map Qan=Qwb (Qan t) ((Qac l).map Qan):=by
 rw [Qxv]
 congr 1
 refine Qim _ _ ?_ (Q5b _) (Qi1 t _ (Q5b l)) ((((Q01 _).map (·.1)).nodup_iff).2 h)
 grind [Q01,Qii]
end
end Go.Av
namespace Go.Av
noncomputable section
set_option maxHeartbeats 4000000
open Tp
def Zbg (C:RCl):List Qs:=(Qac C.all).map Qan
structure Sim (m:Nat) (R:Reg) (L:List Ent):Prop where
 ri:RI m R
 ne:∀ c C,Q47 R c=some C->C.all ≠ []
 so:SE L
 fn:∀ c,Qf2 c L=(Q47 R c).map Zbg
 ln:L.length≤m
theorem Qxw:∀ (L:List Ent),SE L->∀ e∈L,Qf2 e.client L=some e.l
 | [],_,e,h=>by cases h
 | x::r,hs,e,h=>by
  obtain ⟨h1,h2⟩:=Mn.1 hs;simp only [Qf2]
  rcases Lx.1 h with g | g
  ·simp_all
  rw [Ae (fun q=>by grind [Qsy])];exact Qxw r h2 e g
theorem Sim.few {m:Nat} {R:Reg} {L:List Ent} (h:Sim m R L):∀ e∈L,e.l.length≤m:=fun e he=>by
 have h1:=Qxw L h.so e he;rw [h.fn] at h1
 cases hc:Q47 R e.client with
 | none=>simp_all
 | some C=>
  rw [hc] at h1;simp only [Mq,Lb] at h1;rw [← h1];unfold Zbg;rw [Mf,(Q01 _).length_eq];exact (h.ri.get hc).len
theorem Sim.mono {m m':Nat} (hm:m≤m') {R:Reg} {L:List Ent} (h:Sim m R L):Sim m' R L:=⟨h.ri.mono hm,h.ne,h.so,h.fn,Ma h.ln hm⟩
theorem Z7u:Sim 0 [] []:=⟨⟨by simp,fun q h=>(by cases h)⟩,fun c C h=>(by cases h),List.Pairwise.nil,fun c=>rfl,Lh _⟩
theorem Sim.add {m:Nat} {R:Reg} {L:List Ent} (h:Sim m R L) {c:List UInt8} {C2:RCl} {t:RTp} {R2:Reg} (hR:∀ d,Q47 R2 d=if d=c then some C2 else Q47 R d) (hri:RI (m+1) R2) (ha:C2.all=Qm6 R c ++ [t]) :
  Sim (m+1) R2 (Qcc c (Qwb (Qan t) ((Qf2 c L).getD [])) false L):=by
 refine ⟨hri,fun d C hd=>?_,Qem c _ L h.so,fun d=>?_,Ma (Qzo c _ false L) (by have:=h.ln;omega)⟩
 ·rw [hR] at hd;split at hd
  ·simp_all
  exact h.ne d C hd
 rw [Qq9 c d _ L h.so,hR]
 by_cases e:d=c
 ·rw [Af e,Af e];simp only [Mq,Lb]
  have hnd:((Qm6 R c ++ [t]).map (·.1)).Nodup:=by
   rw [← ha];exact (hri.get (c:=c) (by simp_all)).nd
  have e1:(Qf2 c L).getD []=(Qac (Qm6 R c)).map Qan:=by
   rw [h.fn,Q5y]
   cases Q47 R c with
   | none=>rfl
   | some C=>rfl
  simp_all [Z2z,Zbg]
 rw [Ae e,Ae e];exact h.fn d
theorem Sim.same {m:Nat} {R R2:Reg} {L:List Ent} (h:Sim m R L) (hri:RI (m+1) R2) (hR:∀ d,(Q47 R2 d).map (·.all)=(Q47 R d).map (·.all)):Sim (m+1) R2 L:=by
 refine ⟨hri,fun d C hd=>?_,h.so,fun d=>?_,Nat.le_succ_of_le h.ln⟩
 ·have:=hR d;rw [hd] at this
  cases hc:Q47 R d with
  | none=>simp_all
  | some D=>
   rw [hc] at this;simp only [Mq,Lb] at this;rw [this];exact h.ne d D hc
 rw [h.fn];have:=hR d
 cases hc:Q47 R d with
 | none=>
  rw [hc] at this;cases hd:Q47 R2 d<;>grind
 | some C=>
  rw [hc] at this;cases hd:Q47 R2 d<;>grind [Zbg]
theorem Sim.topics {m:Nat} {R:Reg} {L:List Ent} (h:Sim m R L) (c:List UInt8):(Qf2 c L).getD []=(rTopics R c).map Qan:=by
 rw [h.fn];unfold rTopics;rw [Q5y]
 cases Q47 R c with
 | none=>rfl
 | some C=>rfl
theorem Q8w {R:Reg} {c:List UInt8} {t:Qs}:t∈(rTopics R c).map Qan↔∃ q∈Qm6 R c,t=Qan q:=by
 rw [Md];exact ⟨fun ⟨q,hq,e⟩=>⟨q,(Q01 _).mem_iff.1 hq,e.symm⟩,fun ⟨q,hq,e⟩=>⟨q,(Q01 _).mem_iff.2 hq,e.symm⟩⟩
theorem RI.strict {m:Nat} {R:Reg} (h:RI m R) (c:List UInt8):(rTopics R c).Pairwise (fun a b=>a.1<b.1)∧(∀ t∈rTopics R c,1≤t.1∧t.1≤65534)∧(rTopics R c).length≤m:=by
 unfold rTopics;rw [Q5y]
 cases hc:Q47 R c with
 | none=>exact ⟨List.Pairwise.nil,fun t ht=>(by cases ht),Lk _⟩
 | some C=>
  have hC:=h.get hc;exact ⟨Qn1 hC.nd,fun t ht=>hC.rng t ((Q01 _).mem_iff.1 ht),by rw [(Q01 _).length_eq];exact hC.len⟩
theorem Qqz {m:Nat} {R:Reg} (h:RI m R) (c n:List UInt8):(∃ t∈(rTopics R c).map Qan,t.Name=n)↔∃ C,Q47 R c=some C∧n∈C.ids.map (·.1):=by
 constructor
 ·rintro ⟨t,ht,e⟩
  obtain ⟨q,hq,rfl⟩:=Q8w.1 ht;rw [Q5y] at hq
  cases hc:Q47 R c with
  | none=>simp_all
  | some C=>
   rw [hc] at hq;refine ⟨C,rfl,?_⟩;rw [(h.get hc).ids,Mr];exact Md.2 ⟨q,hq,e⟩
 rintro ⟨C,hc,hn⟩
 rw [(h.get hc).ids,Mr] at hn;obtain ⟨q,hq,e⟩:=Md.1 hn;refine ⟨Qan q,Q8w.2 ⟨q,by simp_all [Q5y],rfl⟩,e⟩
section
variable {m:Nat} {R:Reg} {L:List Ent} (h:Sim m R L) (hm:m≤900) (c n:List UInt8) (hn:n.length≤maxLen)
include h hm hn
omit hn in
theorem Q89:TotP (fun N=>Qf N ⟨L⟩ c) (· = ((rTopics R c).map Qan,⟨L⟩)):=by
 have:=Z0y ⟨L⟩ c (by have:=h.ln;grind) (fun e he=>by have:=h.few e he;omega)
 rwa [h.topics c] at this
omit h hn in
theorem Z38 (hri:RI m R):RI (m+1) (Qil true R c n).2:=by
 unfold Qil;rw [Af rfl];exact (hri.mono (Nb m)).set _ (Z3o (fun D hD=>hri.get hD) _)
omit hm hn in
theorem Qto:∀ d,Q47 (Qil true R c n).2 d=if d=c then some (Qoe (Q47 R c) n).2 else Q47 R d:=fun d=>by
 simp_all [Qtk]
theorem Qut:TotP (fun N=>Yc N ⟨L⟩ c n) (fun r=>Sim (m+1) (Qil (Q0j n) R c n).2 r.2.L):=by
 have weak:Sim (m+1) R L:=h.mono (Nb m);unfold Yc;refine Ay (Q7j n hn) ?_
 cases hnm:Q0j n with
 | false=>
  exact iM
 | true=>
  refine Az (fun g=>by cases g) (fun _=>?_);refine Ay (Q89 h hm c).tot ?_;obtain ⟨hst,hrg,hlen⟩:=h.ri.strict c;have hmem:∀ k:Int,k∈(Qm6 R c).map (·.1)↔k∈(rTopics R c).map (·.1):=fun k=>(((Q01 (Qm6 R c)).map (·.1)).mem_iff).symm;have hname:=Qqz h.ri c n;have htop:=h.topics c;generalize rTopics R c=T at hst hrg hlen hmem hname htop ⊢
  have hget:∀ i,(hi:i<T.length)->idx (T.map Qan) (i:Int)=some (Qan T[i]):=fun i hi=>by
   show (T.map Qan)[i]? = _
   simp_all
  have hst':=Bw.1 hst
  refine Qar (S:=Int×Int) (L:=fun N k s=>Qt N c n (T.map Qan,⟨L⟩) k s.1 s.2) (fun s=>∃ i f:Nat,s=((f:Int),(i:Int))∧i≤T.length∧1≤f∧f≤i+1∧(∀ j (hj:j<T.length),j<i->T[j].2.1≠n) ∧
   (∀ j (hj:j<T.length),j<i->T[j].1≠(f:Int))∧∀ k:Int,1≤k->k<f->k∈T.map (·.1)) (fun s=>T.length - s.2.toNat) ?_ (1,0) ⟨0,1,rfl,Lk _,Lh _,Lh _,fun j _ hj=>by omega,fun j _ hj=>by omega,fun k a b=>by omega⟩
  rintro s ⟨i,f,rfl,hi,hf1,hf2,hnn,hff,hlow⟩
  show Stp _ _ _ (fun N k=>cond (Q0 .lss (i:Int) ((Q7 Qs.cells (T.map Qan)).length:Int)) _ _);rw [Q6,Mf,Qn];have hTm:T.length≤m:=hlen;refine AG (fun g=>?_) (fun g=>?_)
  ·have hlt:i<T.length:=by simp_all
   refine AF (hget i hlt) ?_;rw [Q08];refine AG (fun g2=>?_) (fun g2=>?_)
   ·have g2:=Aa g2;refine AF (hget i hlt) (AC ?_);obtain ⟨C,hc,hin⟩:=hname.1 ⟨Qan T[i],Md.2 ⟨_,Mc hlt,rfl⟩,g2⟩;refine h.same (Z38 hm c n h.ri) fun d=>?_<;>grind [Qto,Qoe,Q35]
   have g2:=Ac g2;refine AF (hget i hlt) ?_;rw [Qx,w64 (f+1:Int) (by omega),w64 (i+1:Int) (by omega)]
   have hnn':∀ j (hj:j<T.length),j<i+1->T[j].2.1≠n:=fun j hj hji=>by
    by_cases e:j=i
    ·subst e;exact g2
    grind
   refine AG (fun g3=>?_) (fun g3=>?_)
   ·have g3:T[i].1=(f:Int):=Aa g3;refine AD (L:=fun N k (s:Int×Int)=>Qt N c n (T.map Qan,⟨L⟩) k s.1 s.2) ((f:Int)+1,(i:Int)+1) ⟨⟨i+1,f+1,rfl,hlt,by omega,by omega,hnn',fun j hj hji=>?_,fun k a b=>?_⟩,by omega⟩
    ·grind
    grind
   have g3:T[i].1≠(f:Int):=Ac g3;refine AD (L:=fun N k (s:Int×Int)=>Qt N c n (T.map Qan,⟨L⟩) k s.1 s.2) ((f:Int),(i:Int)+1) ⟨⟨i+1,f,rfl,hlt,hf1,by omega,hnn',fun j hj hji=>?_,hlow⟩,by omega⟩
   grind
  have e:i=T.length:=by grind
  have hnot:∀ C,Q47 R c=some C->n ∉ C.ids.map (·.1):=fun C hc hx=>by
   obtain ⟨t,ht,hne⟩:=hname.2 ⟨C,hc,hx⟩;obtain ⟨q,hq,rfl⟩:=Md.1 ht;obtain ⟨j,hj,rfl⟩:=Mt hq;exact hnn j hj (by omega) hne
  have hfn:(f:Int) ∉ (Qm6 R c).map (·.1):=fH
  have hlo:∀ k:Int,1≤k->k<f->k∈(Qm6 R c).map (·.1):=fun k a b=>(hmem k).2 (hlow k a b);rw [Wc];refine AG (fun g2=>?_) (fun g2=>AB ?_)
  ·grind
  have g2:=Ac g2;obtain ⟨_,C2,q2,q3⟩:=Qys h.ri hnot hfn hlo ⟨by omega,by omega⟩;refine Ax (Z8x _ _ (by grind)) (fun v hv=>?_);refine Ax (Z82 _ c v (by have:=h.ln;grind)) (fun u hu => .ret ?_)
  have hne:decide (v = [])=false:=by grind [Qmn]
  rw [hne] at hu;show Sim _ _ u.2.L;rw [hu,hv]
  have:=h.add (c:=c) (C2:=C2) (t:=((f:Int),n,false)) (R2:=(Qil true R c n).2) (fun d=>by
   grind [Qto]) (Z38 hm c n h.ri) q3
  rw [htop] at this;exact this
omit hm hn in
theorem Qts {id:Int} (hi:1≤id∧id≤65534):∀ d,Q47 (Qjm true R c n id).2 d=if d=c then some (Qnc (Q47 R c) n id).2 else Q47 R d:=fun d=>by
 simp_all [Z1m]
omit h hm hn in
theorem Z4o (hri:RI m R) {id:Int} (hi:1≤id∧id≤65534):RI (m+1) (Qjm true R c n id).2:=by
 unfold Qjm;rw [Af rfl,Af hi];exact (hri.mono (Nb m)).set _ (Z4i (fun D hD=>hri.get hD) _ hi)
theorem Qzz {id:Int} (hi:1≤id∧id≤65534) (hx:∃ t∈(rTopics R c).map Qan,t.ID=id∨t.Name=n):Sim (m+1) (Qjm true R c n id).2 L:=by
 refine h.same (Z4o c n h.ri hi) fun d=>?_;rw [Qts h c n hi]
 by_cases e:d=c
 ·subst e;rw [Af rfl];obtain ⟨t,ht,hor⟩:=hx
  have hC:∃ C,Q47 R d=some C:=by grind [Q8w,Q5y]
  obtain ⟨C,hc⟩:=hC;rw [hc];unfold Qnc;simp only []
  rcases Q4g id C.all 0 with ⟨e1,hid⟩ | ⟨i,v,e1,_,_⟩
  ·rw [e1];simp only []
   rcases Q35 n C.ids 0 with ⟨_,hnn⟩ | ⟨i,v,e2,_,_⟩
   ·exfalso
    rcases hor with g | g
    ·obtain ⟨q,hq,rfl⟩:=Q8w.1 ht;rw [Q5y,hc] at hq;exact hid (Md.2 ⟨q,hq,g⟩)
    obtain ⟨C',hc',hin⟩:=(Qqz h.ri d n).1 ⟨t,ht,g⟩<;>simp_all
   simp_all
  grind
 simp_all
theorem Qqr (id:Int):TotP (fun N=>Y4 N ⟨L⟩ c n id) (fun r=>Sim (m+1) (Qjm (Q0j n) R c n id).2 r.2.L):=by
 have weak:Sim (m+1) R L:=h.mono (Nb m);unfold Y4;refine Ay (Q7j n hn) ?_
 cases hnm:Q0j n with
 | false=>
  exact iM
 | true=>
  refine Az (fun g=>by cases g) (fun _=>?_);rw [Qn,Wc]
  have out:¬ (1≤id∧id≤65534)->Sim (m+1) (Qjm true R c n id).2 L:=fun hi=>by
   simp_all [Qjm,Ae]
  refine Az (fun g => .ret (out fun x=>by grind)) (fun g1=>?_);refine Az (fun g => .ret (out fun x=>by grind)) (fun g2=>?_);have g1:=Ac g1;have g2:=Ac g2;have hi:1≤id∧id≤65534:=⟨by omega,by omega⟩;refine Ay (Q89 h hm c).tot ?_;obtain ⟨_,_,hlen⟩:=h.ri.strict c;have hsame:=Qzz h hm c n hn hi;have htop:=h.topics c;have hname:=Qqz h.ri c n;have hmt:=fun t:Qs=>(Q8w (R:=R) (c:=c) (t:=t))
  have hlen2:((rTopics R c).map Qan).length≤m:=by simp_all
  generalize (rTopics R c).map Qan=T at hsame htop hname hmt hlen2 ⊢;refine Q6t (L:=fun N k s=>Zo N c n id (T,⟨L⟩) k s) T.length (fun _=>True) (fun i hi' _=>?_) (fun _=>?_) trivial
  ·show Stp _ _ _ (fun N k=>cond (Q0 .lss (i:Int) ((Q7 Qs.cells T).length:Int)) _ _);rw [Q6,Qn];refine AG (fun _=>?_) (fun g=>absurd (Ac g) (by omega));refine AF (Z0 hi') ?_;refine AG (fun g=>AC ?_) (fun _=>?_)
   ·grind
   rw [w64 _ (by omega)]
   exact i6
  show Stp _ _ _ (fun N k=>cond (Q0 .lss ((T.length:Nat):Int) ((Q7 Qs.cells T).length:Int)) _ _);rw [Q6,Qn];refine AG (fun g=>absurd (Aa g) (by omega)) (fun _=>AB ?_);refine Q6t (L:=fun N k s=>Za N c n id (T,⟨L⟩) k s) T.length (fun i=>∀ j (hj:j<T.length),j<i->T[j].ID≠id∧T[j].Name≠n) (fun i hi' hJ=>?_) (fun hJ=>?_) (fun j _ hj=>by omega)
  ·show Stp _ _ _ (fun N k=>cond (Q0 .lss (i:Int) ((Q7 Qs.cells T).length:Int)) _ _);rw [Q6,Qn];refine AG (fun _=>?_) (fun g=>absurd (Ac g) (by omega));refine AF (Z0 hi') ?_;rw [Qx];refine AG (fun g=>AC (hsame ⟨T[i],Mc hi',.inl (Aa g)⟩)) (fun g3=>?_);refine AF (Z0 hi') ?_;rw [Q08];refine AG (fun g=>AC (hsame ⟨T[i],Mc hi',.inr (Aa g)⟩)) (fun g4=>?_);rw [w64 _ (by omega)];refine AD (L:=fun N k s=>Za N c n id (T,⟨L⟩) k s) _ ⟨by omega,fun j hj hji=>?_⟩
   grind
  show Stp _ _ _ (fun N k=>cond (Q0 .lss ((T.length:Nat):Int) ((Q7 Qs.cells T).length:Int)) _ _);rw [Q6,Qn];refine AG (fun g=>absurd (Aa g) (by omega)) (fun _=>AB ?_);refine Ax (Z8x T _ (by omega)) (fun v hv=>?_);refine Ax (Z82 _ c v (by have:=h.ln;grind)) (fun u hu => .ret ?_)
  have hne:decide (v = [])=false:=by grind [Qmn]
  rw [hne] at hu;show Sim _ _ u.2.L;rw [hu,hv]
  have hid:id ∉ (Qm6 R c).map (·.1):=fun hx=>by
   obtain ⟨q,hq,e⟩:=Md.1 hx;obtain ⟨j,hj,e2⟩:=Mt ((hmt (Qan q)).2 ⟨q,hq,rfl⟩);exact (hJ j hj hj).1 (by rw [e2];exact e)
  have hnn:∀ C,Q47 R c=some C->n ∉ C.ids.map (·.1):=fun C hc hx=> fH
  have hall:(Qnc (Q47 R c) n id).2.all=Qm6 R c ++ [(id,n,true)]:=by grind [Q5y,Qnc,Q4g,Q35]
  have:=h.add (c:=c) (t:=(id,n,true)) (R2:=(Qjm true R c n id).2) (Qts h c n hi) (Z4o c n h.ri hi) hall;rw [htop] at this;exact this
end
theorem Qv6 {t:List Qi} (ht:t.length≤20) (hn:∀ y∈t,y.Name.length≤maxLen) {L:Nat->Nat->Int->List Q5->Reg->Option Bool} {K:Nat->List Q5->Reg->Option Bool} {Q:Bool->Prop} {P:Reg->Prop} (p0:P []) (pr:∀ R,P R->∀ y∈t,P (Qil (Q0j y.Name) R y.Client y.Name).2) (pp:∀ R,P R->∀ y∈t,P (Qjm (Q0j y.Name) R y.Client y.Name y.ID).2)
  (hL:∀ N n i c R,L N (n+1) i c R=cond (Q0 .lss i (t.length:Int)) (Z3k t N i c R (L N n)) (K N c R)) (hK:∀ R c,Sim 20 R c->P R->TotP (fun N=>K N c R) Q):TotP (fun N=>L N N 0 [] []) Q:=by
 refine Qar (S:=Int×List Q5×Reg) (L:=fun N n s=>L N n s.1 s.2.1 s.2.2) (fun s=>∃ i:Nat,s.1=(i:Int)∧i≤t.length∧Sim i s.2.2 s.2.1∧P s.2.2) (fun s=>t.length - s.1.toNat) ?_ (0,[],[]) ⟨0,rfl,Lk _,Z7u,p0⟩
 rintro ⟨j,c,R⟩ ⟨i,hj,hi,hs,hp⟩
 simp only at hj hs hp
 subst hj
 have e0:(fun N n=>L N (n+1) (i:Int) c R)=fun N n=>cond (Q0 .lss (i:Int) (t.length:Int)) (Z3k t N i c R (L N n)) (K N c R):=by simp_all
 show Stp _ _ _ (fun N n=>L N (n+1) (i:Int) c R);rw [e0,Qn];dsimp only;refine AG (fun h=>?_) (fun h=>?_)
 ·have hlt:i<t.length:=by simp_all
  have hw:WR R:=fun q hq=>(hs.ri.cl q hq).wc;have hln:=hn _ (Mc hlt)
  have ew:wrap .i64 ((i:Int)+1)=((i+1:Nat):Int):=bS
  refine AF (Z0 hlt) ?_;rw [Qx];refine AG (fun h0=>?_) (fun h0=>?_)
  ·refine AF (Z0 hlt) ?_;refine AF (Z0 hlt) ?_;refine AE (Z5h hw _ _ hln) (fun v hv=>?_);subst hv;refine AF (Z0 hlt) ?_;refine AF (Z0 hlt) ?_;refine AE (Qut hs (by omega) _ _ hln) (fun u hu=>?_);rw [ew];exact AD (L:=fun N n (s:Int×List Q5×Reg)=>L N n s.1 s.2.1 s.2.2) (((i+1:Nat):Int),u.2.L,(Qil (Q0j t[i].Name) R t[i].Client t[i].Name).2) ⟨⟨i+1,rfl,hlt,hu,pr R hp _ (Mc hlt)⟩,by omega⟩
  refine AF (Z0 hlt) ?_;refine AF (Z0 hlt) ?_;refine AF (Z0 hlt) ?_;refine AE (Z5s _ _ _ _ hln) (fun v hv=>?_);subst hv;refine AF (Z0 hlt) ?_;refine AF (Z0 hlt) ?_;refine AF (Z0 hlt) ?_;refine AE (Qqr hs (by omega) _ _ hln _) (fun u hu=>?_);rw [ew];exact AD (L:=fun N n (s:Int×List Q5×Reg)=>L N n s.1 s.2.1 s.2.2) (((i+1:Nat):Int),u.2.L,(Qjm (Q0j t[i].Name) R t[i].Client t[i].Name t[i].ID).2) ⟨⟨i+1,rfl,hlt,hu,pp R hp _ (Mc hlt)⟩,by omega⟩
 have:i=t.length:=by grind
 subst this;exact AB (hK R c (hs.mono ht) hp)
end
end Go.Av
namespace Go.Av
noncomputable section
set_option maxHeartbeats 4000000
open Tp
def NI (R:Reg):Prop:=∀ q∈R,q.1.length≤1000000∧∀ t∈q.2.all,Q0j t.2.1=true∧t.2.1.length≤2000
theorem Z8j:NI []:=fun q h=>by cases h
theorem NI.get {R:Reg} (h:NI R) {c:List UInt8} {C:RCl} (hc:Q47 R c=some C):∀ t∈C.all,Q0j t.2.1=true∧t.2.1.length≤2000:=by
 unfold Q47 at hc
 cases hf:Vk c 0 R with
 | none=>simp_all
 | some x=>
  rw [hf] at hc;obtain ⟨i,D⟩:=x;cases hc;exact (h _ (Qhq hf)).2
theorem NI.set {R:Reg} (h:NI R) (c:List UInt8) (hc:c.length≤1000000) {C:RCl} (hC:∀ t∈C.all,Q0j t.2.1=true∧t.2.1.length≤2000):NI (Z02 R c C):=by
 unfold Z02
 rcases Qbo c R 0 with ⟨e,_⟩ | ⟨i,v,e,_,_⟩
 ·rw [e];intro q hq
  rcases Bb.1 hq with h1 | h1
  ·exact h q h1
  grind
 rw [e];intro q hq
 rcases Bd hq with h1 | h1
 ·exact h q h1
 grind
theorem Z8d {R:Reg} (h:NI R) (c:List UInt8) (hc:c.length≤1000000) (n:List UInt8) (hl:n.length≤2000):NI (Qil (Q0j n) R c n).2:=by
 unfold Qil;split
 ·rename_i hn;refine h.set c hc ?_;unfold Qoe
  exact fe
 omega
theorem Z9e {R:Reg} (h:NI R) (c:List UInt8) (hc:c.length≤1000000) (n:List UInt8) (hl:n.length≤2000) (id:Int):NI (Qjm (Q0j n) R c n id).2:=by
 unfold Qjm;split
 ·rename_i hn;split
  ·refine h.set c hc ?_;unfold Qnc
   exact fe
  omega
 omega
theorem Z7s {R:Reg} {c:List UInt8}:c∈R.map (·.1)↔∃ C,Q47 R c=some C:=by
 unfold Q47
 rcases Qbo c R 0 with ⟨e,hn⟩ | ⟨i,v,e,_,hv⟩
 ·simp_all
 rw [e];exact ⟨fun _=>⟨v,rfl⟩,fun _=>Md.2 ⟨_,Mk hv,rfl⟩⟩
theorem Z3n {c:List UInt8}:∀ {L:List Ent},c∈L.map (·.client)↔∃ l,Qf2 c L=some l
 | []=>⟨fun h=>(by cases h),fun ⟨l,h⟩=>(by cases h)⟩
 | x::r=>by
  unfold Qf2
  by_cases e:x.client=c
  ·simp_all
  rw [Ae e,Mv,Lx,← Z3n (L:=r)]
  grind
section
variable {m:Nat} {R:Reg} {L:List Ent} (h:Sim m R L)
include h
theorem Qj2:rClients R=L.map (·.client):=by
 have so:(L.map (·.client)).Pairwise (fun a b=>Op.bytesLess a b=true):=List.pairwise_map.2 h.so;refine Qi7 _ _ ?_ (Qau _ h.ri.keys) (so.imp fun {a b} g x=>?_)
 ·refine (Q8x _).trans ((List.perm_ext_iff_of_nodup h.ri.keys (so.imp fun {a b} g x=>?_)).2 fun c=>?_)
  ·simp_all [Qsy]
  rw [Z7s,Z3n,h.fn];cases Q47 R c<;>simp_all
 grind [Qn9,Qsy]
theorem Z28 (hm:m≤900) (hn:NI R):okKeys R=true:=by
 refine Ad ⟨?_,h.ri.keys,fun q hq=>(hn q hq).1⟩;have:=congrArg List.length (Qj2 h);rw [Mf] at this;unfold rClients at this;rw [(Q8x _).length_eq,Mf] at this;have:=h.ln;omega
end
theorem Qx8 (o:Q2) (hl:o.L.length≤100000):TotP (fun N=>Qp N o) (· = (o.L.map (·.client),o)):=by
 unfold Qp;refine Qar (S:=Int×List (List UInt8)) (L:=fun N n s=>Zh N o n s.1 s.2) (fun s=>∃ i:Nat,s.1=(i:Int)∧i≤o.L.length∧s.2=(o.L.take i).map (·.client)) (fun s=>o.L.length - s.1.toNat) ?_ (0,[]) ⟨0,rfl,Lk _,rfl⟩
 rintro ⟨j,acc⟩ ⟨i,hj,hi,ha⟩
 simp only at hj ha
 subst hj;show Stp _ _ _ (fun N n=>cond (Q0 .lss (i:Int) ((Q7 Q5.cells o.L).length:Int)) _ _);rw [Q6,Qn];dsimp only
 have hal:acc.length=i:=by simp_all
 refine AG (fun g=>?_) (fun g=>?_)
 ·have g:i<o.L.length:=by simp_all
  refine AF (Z0 g) ?_;refine AH bT ?_;rw [w64 _ (by omega)];refine AD (L:=fun N n (s:Int×List (List UInt8))=>Zh N o n s.1 s.2) ((i:Int)+1,acc ++ [o.L[i].client]) ⟨⟨i+1,by simp,g,?_⟩,by omega⟩
  exact dU
 have g:i=o.L.length:=by grind
 simp_all [AC]
theorem Qw2 (a:List (List UInt8)) (hl:a.length≤100000):TotP (fun N=>Z4 N a a) (· = true):=by
 unfold Z4;rw [Ym];refine Az (fun g=>absurd rfl (Aa g)) (fun _=>?_);refine Q6t (L:=fun N n i=>Xg N a a n i) a.length (fun _=>True) (fun i hi _=>?_) (fun _=>?_) trivial
 ·show Stp _ _ _ (fun N n=>cond (Q0 .lss (i:Int) ((Q7 cS a).length:Int)) _ _);rw [Q6,Qn];refine AG (fun _=>?_) (fun g=>absurd (Ac g) (by omega));refine AF (Z0 hi) ?_;refine AF (Z0 hi) ?_;rw [show Q10 .neq a[i] a[i]=false from by simp [Q10]];refine AG (fun g=>by cases g) (fun _=>?_);rw [w64 _ (by omega)]
  exact i6
 show Stp _ _ _ (fun N n=>cond (Q0 .lss ((a.length:Nat):Int) ((Q7 cS a).length:Int)) _ _)
 simp_all [Q6,AG,AC]
theorem Qxl {m:Nat} {R:Reg} {L:List Ent} (h:Sim m R L) (hm:m≤900) (hn:NI R) (c:List UInt8) :
  TotP (fun N=>(Gt N R c).bind fun v1=>
   (Qf N (⟨L⟩:Q2) c).bind fun v2=>
   (Qw N v1.1 v2.1).bind fun v3=>
   cond v3
   ((Jm N v1.2).bind fun v4=>
   (Qp N v2.2).bind fun v5=>
   (Z4 N v4.1 v5.1).bind fun v6=>
   some v6)
   (some false)) (· = true):=by
 refine Ay (v:=((rTopics R c).map Qan,R)) (.of fun N=>?_) ?_
 ·show cond (okAll R c) _ _=_;rw [h.ri.okAll (by omega) c];rfl
 refine Ay (Q89 h hm c).tot ?_
 have hl:((rTopics R c).map Qan).length≤900:=by rw [Mf];have:=(h.ri.strict c).2.2;omega
 refine Ay (Z1b ((rTopics R c).map Qan) (by omega)).tot ?_;refine Az (fun _=>?_) (fun g=>by cases g);refine Ay (v:=(rClients R,R)) (.of fun N=>?_) ?_
 ·show cond (okKeys R) _ _=_
  grind [Z28]
 refine Ay (Qx8 ⟨L⟩ (by show L.length≤_;have:=h.ln;omega)).tot ?_;rw [Qj2 h];exact Ay (Qw2 (L.map (·.client)) (by rw [Mf];have:=h.ln;omega)).tot (.ret rfl)
end
end Go.Av
namespace Go.Av
noncomputable section
set_option maxHeartbeats 4000000
def zPk:Zj:=⟨0,false,false,0,0,[],[],false,0,[],false,[],false,[],false,(⟨[],[],0,false,[]⟩:Q3r),false,0,[],[],[]⟩
def zMk:Xl:=⟨0,(⟨false,0,false,false,false,0⟩:Qz),0,0,0,false,0,0,0,[],[]⟩
def zFk:X9:=⟨0,0,[],[]⟩
def zEk:Qg:=⟨0,0,[],[],0,false,false,0,[],0,[],0,zPk,zMk,zFk⟩
def Zaj (h:Vc):Bool:=decide (0≤h.Radius∧h.Radius≤3∧1≤h.Node.length∧h.Node.length≤32)
def Qjy (l:List Vc):Bool:=decide (l.length≤4)&&l.all Zaj
def Z61:Xl:=⟨23,(⟨false,0,false,false,false,0⟩:Qz),0,0,0,false,0,0,0,[],[]⟩
theorem Qz3 (l:List Vc):decide (dgE ⟨l,Z61⟩ ⟨1048576,32⟩=0)=Qjy l:=by
 have hG:∀ x:Vc,Qci x=Zaj x:=fun x=>by
  grind [Qci,Zaj]
 have hA:l.all Qci=l.all Zaj:=by grind
 unfold dgE Qjy;rw [Af (by rfl)]
 by_cases h4:l.length>4
 ·grind
 rw [Ae h4,Ad (p:=l.length≤4) (by omega),← hA]
 by_cases ha:l.all Qci=true
 ·have hl:=Qst ha
  have hs:snE Z61=0:=by decide
  have hz:(snY Z61).length=2:=by decide
  grind
 grind
theorem Qsa (l:List Vc) (_:l.length≤30) (_:∀ x∈l,x.Node.length≤300):TotP (fun N=>Xa N ⟨l,Z61⟩ ⟨1048576,32⟩) (fun v=>decide (v=0)=Qjy l):=
 TotP.of (Qz3 l) (Qgz (d:=⟨l,Z61⟩) (Lk _) (Lk _) _)
def Q3z (s:List UInt8):Bool:=decide (s.length=2)&&Q0j s
def Qor (e:Qg):Bool:=decide (0≤e.Type'∧e.Type'≤2)&&((!(decide (e.Type'=2))||Q3z e.Topic)&&Qjy e.Hops)
theorem Zyf (s:List UInt8) (hs:s.length=2):TotP (fun N=>Um N s) (fun _=>True):=by
 match s,hs with
 | [a,b],_=>exact ⟨_,trivial,3,fun N hN=>by
   obtain ⟨M,rfl⟩:∃ M,N=M+3:=⟨N - 3,by omega⟩
   rfl⟩
theorem nB {x:Bool} (h:(!x)=true):x=false:=by simp_all
theorem pB {x:Bool} (h:(!x)=false):x=true:=by simp_all
theorem Z33 (s:List UInt8) (hs:s.length≤maxLen):TotP (fun N=>Q21 N s) (fun v=>v.2=Q3z s):=by
 show TotP (fun N=>cond (Q0 .neq (s.length:Int) 2) _ _) _;unfold Q3z;rw [Ym];refine Az (fun h => .ret ?_) (fun h=>?_)
 ·grind
 have h:s.length=2:=by grind
 rw [Ad h];refine Ay (Q6y s hs) ?_;refine Az (fun g => .ret (by simp_all)) (fun g=>?_);exact Ax (Zyf s h) (fun _ _ => .ret (by simp_all))
theorem Z1g (e:Qg) (ht:e.Topic.length≤maxLen) (hl:e.Hops.length≤30) (hn:∀ x∈e.Hops,x.Node.length≤300):Tot (fun N=>Q1p N e) (Qor e):=by
 refine Aw ?_;unfold Q1p Qor;refine Ay (.of fun N=>Qgh N _ _ _) ?_
 have e0:(decide (0≤e.Type')&&decide (e.Type'≤2))=decide (0≤e.Type'∧e.Type'≤2):=by simp
 rw [e0];refine Az (fun g => .ret ?_) (fun g=>?_)
 ·grind
 rw [pB g];refine Ax (Z33 _ ht) (fun v hv=>?_);rw [Qx,hv];refine Az (fun g2=>?_) (fun g2=>?_)
 ·rw [g2];refine Az (fun g3 => .ret ?_) (fun g3=>?_)
  ·simp_all
  rw [pB g3];refine Ay (v:=⟨1048576,32⟩) (.of fun _=>rfl) ?_;refine Ax (Qsa e.Hops hl hn) (fun w hw => .ret ?_)
  simp_all [Qx]
 rw [g2];refine Ay (v:=⟨1048576,32⟩) (.of fun _=>rfl) ?_;refine Ax (Qsa e.Hops hl hn) (fun w hw => .ret ?_)
 simp_all [Qx]
open Classical in
noncomputable def Q70 (e:Qg):Bool:=decide (e.Packet=zPk∧e.Msg=zMk∧e.Frame=zFk)
open Classical in
theorem Z67 {e:Qg} (hpk:Z30 e.Packet) (hs:Q4.szs e.Frame.Values<700000000):Tot (fun N=>Q1j N e) (Q70 e):=by
 have key:TotP (fun N=>Q1j N e) (fun v=>v=true↔e.Packet=zPk∧e.Msg=zMk∧e.Frame=zFk):=by
  unfold Q1j;refine Ax (Qfb e.Packet zPk hpk) (fun v hv=>?_);refine Az (fun g=>?_) (fun g => .ret ⟨fun h=>absurd h (by decide),fun h=>absurd (hv.2 h.1) (by simp_all)⟩)
  refine Az (fun g2=>?_) (fun g2 => .ret ⟨fun h=>absurd h (by decide),fun h=>absurd ((Qub e.Msg zMk).2 h.2.1) gN⟩)
  refine Ax (V:=fun v=>v=true↔e.Frame=zFk) ⟨decide (e.Frame=zFk),decide_eq_true_iff,800000000,fun N hN=>Qp5 hN _ _ hs⟩ (fun w hw => .ret ⟨fun h=>⟨hv.1 g,(Qub e.Msg zMk).1 g2,hw.1 h⟩,fun h=>hw.2 h.2.2⟩)
 obtain ⟨v,hv,ht⟩:=key<;>grind [Q70]
noncomputable def Qd3 (e:Qg) (v:Int):Int:=
 open Classical in
 if ¬ ((e.Proto=1∨e.Proto=2∨e.Proto=3∨e.Proto=4)∧e.Kind=1) then 2 else if Q0j e.Topic=false then 10 else if ¬ PubT e (cq e) (Qor e) (Q70 e) then 2 else if v≠0 then 9 else 0
theorem Z9l {e:Qg} {v:Int} (ht:e.Topic.length≤maxLen) (hl:e.Hops.length≤30) (hh:∀ x∈e.Hops,x.Node.length≤300) (hpk:Z30 e.Packet) (hs:Q4.szs e.Frame.Values<700000000)
  (hv:Tot (fun N=>Jq N 3 e.Props) v):Tot (fun N=>Gw N e) (Qd3 e v):=by
 refine Aw ?_;rw [show (fun N=>Gw N e)=fun N=>Uf N e (cq e) from funext fun N=>Qza N e];unfold Uf;refine Ay (.of fun N=>Z0n N e.Proto) ?_;rw [Ym]
 have bad:¬ ((e.Proto=1∨e.Proto=2∨e.Proto=3∨e.Proto=4)∧e.Kind=1)->2=Qd3 e v:=fun h=>by simp_all [Qd3]
 refine Az (fun g => .ret (bad fun h=>Ac (nB g) h.1)) (fun g=>?_);have k1:=Aa (pB g);refine Az (fun g => .ret (bad fun h=>Aa g h.2)) (fun g=>?_);have k2:e.Kind=1:=Decidable.byContradiction fun x=>Ac g x;refine Ay (Q6y e.Topic ht) ?_;refine Az (fun g => .ret (by simp_all [Qd3])) (fun g=>?_)
 have kn:¬ Q0j e.Topic=false:=by simp_all
 have two:¬ PubT e (cq e) (Qor e) (Q70 e)->TotP (fun _=>some (2:Int)) (· = Qd3 e v):=fun h => .ret (by simp_all [Qd3])
 have j5:(Q70 e=true->PubT e (cq e) (Qor e) (Q70 e))->TotP (fun N=>G7 N e) (· = Qd3 e v):=fun mk=>by
  unfold G7;refine Ay (Z67 hpk hs) ?_;refine Az (fun g=>two fun h=>by have:=h.bare;simp_all) (fun g=>?_);have hP:=mk (pB g);refine Ay hv ?_;rw [Ym];refine Az (fun g => .ret ?_) (fun g => .ret ?_)<;>grind [Qd3]
 have j4:((0≤e.Channel∧e.Channel≤65535)->(e.Channel≠0->e.Proto=4)->Q70 e=true->PubT e (cq e) (Qor e) (Q70 e))->TotP (fun N=>Ga N e) (· = Qd3 e v):=fun mk=>by
  unfold Ga;refine Ay (.of fun N=>Qgh N _ _ _) ?_;rw [Ym,Ym];refine Az (fun g=>two fun h=>by have:=h.ch;simp_all) (fun g=>?_)
  have c1:0≤e.Channel∧e.Channel≤65535:=by simp_all
  refine Az (fun g1=>?_) (fun g1=>j5 (mk c1 fun x=>absurd x (Ac g1)));refine Az (fun g2=>two fun h=>Aa g2 (h.ch4 (Aa g1))) (fun g2=>j5 (mk c1 fun _=>Decidable.byContradiction fun x=>Ac g2 x))
 have j3:((e.Proto=3->Qor e=true)->(e.Proto≠3->e.Type'=0∧e.Hops.length=0)->(0≤e.Channel∧e.Channel≤65535)->(e.Channel≠0->e.Proto=4)->Q70 e=true->PubT e (cq e) (Qor e) (Q70 e))->TotP (fun N=>Jz N e) (· = Qd3 e v):=fun mk=>by
  unfold Jz;rw [Qx,Ym,Wc,Q6];refine Az (fun g=>?_) (fun g=>?_)
  ·have p3:=Aa g;refine Ay (Z1g e ht hl hh) ?_;exact Az (fun g=>two fun h=>by have:=h.ty p3;simp_all) (fun g=>j4 (mk (fun _=>pB g) fun x=>absurd p3 x))
  have p3:=Ac g;refine Az (fun g=>two fun h=>Aa g (h.ty2 p3).1) (fun g1=>?_);refine Az (fun g=>two fun h=>by have:=Aa g;have:=(h.ty2 p3).2;omega) (fun g2=>j4 (mk (fun x=>absurd x p3) fun _=>⟨Decidable.byContradiction fun x=>Ac g1 x,by simp_all⟩))
 have j2:((0<e.Props.length->e.Proto=2)->(e.Proto=3->Qor e=true)->(e.Proto≠3->e.Type'=0∧e.Hops.length=0)->(0≤e.Channel∧e.Channel≤65535)->(e.Channel≠0->e.Proto=4)->Q70 e=true->PubT e (cq e) (Qor e) (Q70 e))->TotP (fun N=>Uc N e) (· = Qd3 e v):=fun mk=>by
  unfold Uc;rw [Wc,Ym,Q6];refine Az (fun g=>?_) (fun g=>j3 (mk fun x=>by simp_all));refine Az (fun g2=>two fun h=>Aa g2 (h.props (by simp_all))) (fun g2=>j3 (mk fun _=>Decidable.byContradiction fun x=>Ac g2 x))
 have j1:((0≤e.QoS∧e.QoS≤2)∨(e.Proto=3∧e.QoS = -1))->TotP (fun N=>G4 N e (cq e)) (· = Qd3 e v):=fun hq=>by
  unfold G4;refine Ay (.of fun N=>Qgh N _ _ _) ?_;rw [Ym,Qx];refine Az (fun g=>two fun h=>by have:=h.id;simp_all) (fun g=>?_)
  have c1:0≤e.ID∧e.ID≤65535:=by simp_all
  refine Az (fun g=>two fun h=>by have:=h.cid;simp_all) (fun g=>?_)
  have c2:cq e=decide (e.ID≠0):=by simp_all
  have mk:=fun d a b c f g h=>(⟨k1,k2,hq,c1,c2,d,a,b,c,f,g,h⟩:PubT e (cq e) (Qor e) (Q70 e));refine Az (fun g=>?_) (fun g=>j2 (mk fun d=>by simp_all));refine Az (fun g2=>?_) (fun g2=>j2 (mk fun _ => .inl (pB g2)));refine Az (fun g3=>two fun h=>?_) (fun g3=>j2 (mk fun _ => .inr (Aa (pB g3))))
  rcases h.dup g with x | x<;>grind
 refine Ay (.of fun N=>Qgh N _ _ _) ?_;rw [Qx,Qx];refine Az (fun g=>?_) (fun g=>j1 (.inl (by simp_all)))
 have nq:¬ (0≤e.QoS∧e.QoS≤2):=fun h=>by simp_all
 refine Az (fun g1=>?_) (fun g1=>two fun h=>h.qos.elim nq fun x=>Ac g1 x.1);exact Az (fun g2=>two fun h=>h.qos.elim nq fun x=>Ac (nB g2) x.2) (fun g2=>j1 (.inr ⟨Aa g1,Aa (pB g2)⟩))
end
end Go.Av
namespace Go.Av
noncomputable section
section
variable {B:Nat} {c:Q3} (h:Cd B c) (hB:B≤1000) (k:c.m.Type'=12)
include h hB k
end
section
variable {m:Xl} (h:OkM m) (k:m.Type'=12)
include h k
end
end
end Go.Av
namespace Go.Av
noncomputable section
set_option maxHeartbeats 4000000
theorem Z9q:Qnq zPk:=by
 constructor<;>first | exact Lk _ | decide | (intro x hx;cases hx) | (constructor<;>first | exact Lk _ | (intro x hx;cases hx))
def there (p:Int) (e:Qg) (d:Bool) (ty:Int):Qg:=⟨p,1,e.Topic,e.Payload,e.QoS,e.Retain,d,e.ID,[],ty,[],0,zPk,zMk,zFk⟩
theorem LE.there {e:Qg} (h:LE e) (p:Int) (d:Bool) (ty:Int):LE (there p e d ty):=
 ⟨h.topic,h.payload,⟨Lk _,fun x hx=>nomatch hx⟩,Z9q,⟨Lk _,(fun x hx=>nomatch hx),⟨Lk _,Lk _⟩⟩,⟨(fun x hx=>nomatch hx),(by show Q4.szs []<_;decide),(by show Q4.wgts []<_;decide)⟩⟩
theorem LE.szs {e:Qg} (h:LE e):Q4.szs e.Frame.Values<700000000:=Nat.lt_trans h.fb.sz (by decide)
theorem Zcs:Tot (fun N=>Jq N 3 []) 0:=⟨50,fun N hN=>by obtain ⟨M,rfl⟩:∃ M,N=M+50:=⟨N - 50,by omega⟩;kernel_rfl⟩
def pOk (p:Int):Prop:=p=1∨p=2∨p=3∨p=4
inductive To28 (R:Reg) (cl:List UInt8) (e:Qg) (p v:Int):Qg×Int->Prop
 | arg (h:¬ pOk p):To28 R cl e p v (zEk,2)
 | bad (h:pOk p) (h0:Qd3 e v≠0):To28 R cl e p v (zEk,Qd3 e v)
 | own (h:pOk p) (h0:Qd3 e v=0) (he:p=e.Proto):To28 R cl e p v (e,0)
 | loss (h:pOk p) (h0:Qd3 e v=0) (he:p≠e.Proto) (why:e.Props ≠ []∨(p≠3∧e.QoS<0)∨(p=3∧((e.Topic.length≠2∧(rID R cl e.Topic).2≠0)∨∃ d:(Qb×Int)×Reg,d.1.2≠0 ∧
   Tot (fun N=>Uj N R cl (there 3 e e.Dup (if e.Topic.length=2 then 2 else if Qc9 R cl (rID R cl e.Topic).1=true then 1 else 0))) d))):To28 R cl e p v (zEk,15)
 | plain (h:pOk p) (h0:Qd3 e v=0) (he:p≠e.Proto) (hpr:e.Props = []) (h3:p≠3) (hq:0≤e.QoS):To28 R cl e p v (there p e (e.Dup&&decide (e.QoS>0)) 0,0)
 | sn (h:p=3) (h0:Qd3 e v=0) (he:p≠e.Proto) (hpr:e.Props = []) (ty:Int) (hpub:Qd3 (there 3 e e.Dup ty) 0=0):To28 R cl e p v (there 3 e e.Dup ty,0)
open Classical in
theorem Z7j {e:Qg} {v:Int} (h:Qd3 e v=0):(Q0j e.Topic=true∧PubT e (cq e) (Qor e) (Q70 e))∧(e.Packet=zPk∧e.Msg=zMk∧e.Frame=zFk)∧v=0∧e.Kind=1:=by
 unfold Qd3 at h
 by_cases h1:(e.Proto=1∨e.Proto=2∨e.Proto=3∨e.Proto=4)∧e.Kind=1
 ·rw [Ae (Ao h1)] at h
  by_cases h2:Q0j e.Topic=false
  ·simp_all
  rw [Ae h2] at h
  by_cases h3:PubT e (cq e) (Qor e) (Q70 e)
  ·rw [Ae (Ao h3)] at h
   by_cases h4:v=0
   ·have hb:=h3.bare
    simp_all [Q70]
   omega
  simp_all
 omega
end
end Go.Av
namespace Go.Av
noncomputable section
set_option maxHeartbeats 4000000
theorem Z6i (l:List Vc):TotP (fun N=>X5 N ⟨l,Z61⟩ ⟨1048576,32⟩) (fun v=>decide (v=0)=Qjy l):=
 TotP.of (Qz3 l) (Qqk (d:=⟨l,Z61⟩) (Lk _) (Lk _) _)
theorem Zao (l:List Vc) (hl:l.length≤30):Tot (fun N=>Gd N l) (Qjy l):=by
 refine Aw ?_;unfold Gd;refine Ay (v:=⟨1048576,32⟩) (.of fun _=>rfl) ?_;refine Ax (Z6i l) (fun v hv => .ret ?_)<;>simp_all [Qx]
theorem Zcw (s:List UInt8) (hs:s.length≤maxLen):Any (fun N=>Wm N s):=by
 have hm:=Q7s;unfold Wm;refine Qar (L:=fun N n (q:Int×Int)=>Y2 N s n q.1 q.2) (fun q=>∃ i:Nat,q.2=(i:Int)∧i≤s.length) (fun q=>s.length - q.2.toNat) ?_ (0,0) ⟨0,rfl,Lk _⟩
 rintro ⟨o,j⟩ ⟨i,hj,hi⟩
 simp only at hj
 subst hj;show Stp _ _ _ (fun N n=>cond (Q0 .lss (i:Int) (s.length:Int)) _ _);rw [Qn];dsimp only;refine AG (fun hx=>?_) (fun _=>AC trivial);have hx:=Aa hx
 have hi:i<s.length:=by omega
 refine AF (Z0 hi) ?_
 have e1:wrap .i64 ((i:Int)+1)=((i+1:Nat):Int):=bS
 rw [e1];exact AD (L:=fun N n (q:Int×Int)=>Y2 N s n q.1 q.2) (_,((i+1:Nat):Int)) ⟨⟨i+1,rfl,by omega⟩,by omega⟩
theorem Z78 (s:List UInt8) (hs:s.length≤maxLen):TotP (fun N=>Wv N s) (fun v=>v.2=Q3z s):=by
 unfold Wv Q3z;rw [Ym];refine Az (fun h => .ret ?_) (fun h=>?_)
 ·grind
 have h:s.length=2:=by grind
 rw [Ad h];refine Ay (Q7j s hs) ?_;refine Az (fun g => .ret (by simp_all)) (fun g=>?_);exact Ax (Zcw s hs) (fun _ _ => .ret (by simp_all))
def snB (e:Qg):Bool:=cond (decide (e.Proto≠3)) (decide (e.Type'=0∧e.Hops.length=0)) (Qor e)
theorem Zwv {e:Qg} (ht:e.Topic.length≤maxLen) (hl:e.Hops.length≤30):Tot (fun N=>Uh N e) (snB e):=by
 refine Aw ?_;unfold Uh snB Qor;rw [Ym];refine Az (fun g=>?_) (fun g=>?_)
 ·rw [g];show TotP _ (fun r=>r=decide (e.Type'=0∧e.Hops.length=0));rw [Qx,Qx,Q6];refine Az (fun g2 => .ret ?_) (fun g2 => .ret ?_)<;>simp_all
 rw [g];show TotP _ (fun r=>r=(decide (0≤e.Type'∧e.Type'≤2)&&((!(decide (e.Type'=2))||Q3z e.Topic)&&Qjy e.Hops)));refine Ax (Z78 _ ht) (fun v hv=>?_);rw [Gm,Uy,Ym,hv];refine Az (fun g1=>?_) (fun g1 => .ret ?_)
 ·have g1:=Aa g1;refine Az (fun g2=>?_) (fun g2 => .ret ?_)
  ·have g2:=Aa g2;rw [Ad (p:=0≤e.Type'∧e.Type'≤2) ⟨g1,g2⟩];refine Ay (Zao _ hl) ?_;refine Az (fun g3=>?_) (fun g3 => .ret (by simp_all));rw [g3];refine Az (fun g4 => .ret ?_) (fun g4 => .ret ?_)<;>simp_all
  grind
 grind
open Classical in
theorem Z3z {e:Qg} (hpk:Z30 e.Packet) (hs:Q4.szs e.Frame.Values<700000000):Tot (fun N=>Yn N e) (Q70 e):=by
 have key:TotP (fun N=>Yn N e) (fun v=>v=true↔e.Packet=zPk∧e.Msg=zMk∧e.Frame=zFk):=by
  unfold Yn;refine Ax (Qfd e.Packet zPk hpk) (fun v hv=>?_);refine Az (fun g=>?_) (fun g => .ret ⟨fun h=>absurd h (by decide),fun h=>absurd (hv.2 h.1) (by simp_all)⟩)
  refine Az (fun g2=>?_) (fun g2 => .ret ⟨fun h=>absurd h (by decide),fun h=>absurd ((Qub e.Msg zMk).2 h.2.1) gN⟩)
  refine Ax (V:=fun v=>v=true↔e.Frame=zFk) ⟨decide (e.Frame=zFk),decide_eq_true_iff,800000000,fun N hN=>Qfp hN _ _ hs⟩ (fun w hw => .ret ⟨fun h=>⟨hv.1 g,(Qub e.Msg zMk).1 g2,hw.1 h⟩,fun h=>hw.2 h.2.2⟩)
 obtain ⟨v,hv,ht⟩:=key<;>grind [Q70]
theorem rJ5 {N:Nat} {e:Qg} (hs:Uh N e=some (snB e)) (s:Bool):Yz N (Z9 N e) e s=Z9 N e (s||(decide (0<e.Props.length∧e.Proto≠2) || !(snB e))):=by
 grind [V7,Yz,Wc,Ym,Q6]
section
variable {N:Nat} {e:Qg} {b:Bool} {v:Int} (hn:Zn N e.Topic=some (Q0j e.Topic)) (hs:Uh N e=some (snB e)) (hb:Yn N e=some b) (hv:Vn N 3 e.Props=some v)
def Z3e (v:Int) (s:Bool):Option Int:=cond s (some 2) (cond (decide (v≠0)) (some 9) (some 0))
include hv
theorem rJ7 (s:Bool):Zx N e s=Z3e v s:=by
 simp_all [Zx,Z3e,Ym]
include hb
theorem rJ4 (s:Bool):Z9 N e s=Z3e v (s||(!(decide ((0≤e.Channel∧e.Channel≤65535)∧(e.Channel≠0->e.Proto=4))&&b))):=by
 grind [Z9,rJ7,Qn,Wc,Ym,Z3e]
include hs
def Qym (e:Qg) (b a:Bool):Bool:=(e.Dup&&(!a&&decide (e.Proto≠3)))||(decide (0<e.Props.length∧e.Proto≠2) || !(snB e))||(!(decide ((0≤e.Channel∧e.Channel≤65535)∧(e.Channel≠0->e.Proto=4))&&b))
theorem rJ3 (a s:Bool):Zw N e a s=Z3e v (s||Qym e b a):=by
 unfold Zw;simp only [rJ5 hs,rJ4 hb hv,Ym];unfold Qym
 cases s with
 | true=>rfl
 | false=>grind
theorem rJ2 (least:Int) (a:Bool):Yj N e least a=Z3e v (!(decide ((least≤e.QoS∧e.QoS≤2)∧(0≤e.ID∧e.ID≤65535)∧decide (e.ID≠0)=a))||Qym e b a):=by
 unfold Yj
 grind [rJ3,Ym,Qn,Wc]
include hn
theorem Zvr (hbe:b=Q70 e):W7 N e=some (Qd3 e v):=by
 have j1:∀ l,Xx N e l=Yj N e l (cq e):=fun l=>by
  grind [Xx,cq,Qx]
 have j0:∀ s,Yi N e s=cond s (some 2) (cond (!(Q0j e.Topic)) (some 10) (Yj N e (if e.Proto=3 then -1 else 0) (cq e))):=fun s=>by
  grind [Yi,Qx]
 have top:W7 N e=Yi N e (!(decide ((e.Proto=1∨e.Proto=2∨e.Proto=3∨e.Proto=4)∧e.Kind=1))):=by grind [W7,Qn,Wc,Ym]
 rw [top,j0,rJ2 hs hb hv];unfold Qd3
 by_cases h1:(e.Proto=1∨e.Proto=2∨e.Proto=3∨e.Proto=4)∧e.Kind=1
 ·rw [Ae (Ao h1),Ad h1]
  cases hw:Q0j e.Topic with
  | false=>rfl
  | true=>
   rw [Ae (show ¬ ((true:Bool)=false) from fun h=>by cases h)];show Z3e v _=_
   have key:(!(decide (((if e.Proto=3 then -1 else 0)≤e.QoS∧e.QoS≤2)∧(0≤e.ID∧e.ID≤65535)∧decide (e.ID≠0)=cq e))||Qym e b (cq e))=false↔PubT e (cq e) (Qor e) (Q70 e):=by
    unfold Qym;simp only [Bool.or_eq_false_iff,Bool.not_eq_false',Ag,Le,Bool.and_eq_false_iff,An];constructor
    ·rintro ⟨⟨q1,q2,q3⟩,⟨q4,q5,q6⟩,q7,q8⟩
     refine ⟨h1.1,h1.2,?_,q2,q3.symm,fun d=>?_,fun hp=>?_,fun p3=>?_,fun p3=>?_,q7.1,q7.2,by simp_all⟩
     ·omega
     ·simp_all
     ·omega
     ·simp_all [snB]
     simp_all [snB]
    rintro ⟨p1,p2,p3,p4,p5,p6,p7,p8,p9,p10,p11,p12⟩
    grind [snB]
   grind [Z3e]
 grind
end
end
end Go.Av
namespace Go.Av
noncomputable section
set_option maxHeartbeats 4000000
open Tp
abbrev gl:Yq:=⟨1048576,32⟩
def toR (R:Reg) (cl:List UInt8) (d:Qb):Qg×Int:=toG d (dgE d gl) (Qty d.Msg.TopicID) ((Qc1 R cl d.Msg.TopicID).1,Qc9 R cl d.Msg.TopicID) (Qc1 R cl d.Msg.TopicID).2
theorem Zav {d:Qb} (h:Qvo d) (R:Reg) (cl:List UInt8):Tot (fun N=>Q0w N R cl d) (toR R cl d,R):=by
 refine Aw ?_;unfold Q0w;refine Ay (v:=⟨1048576,32⟩) (.of fun _=>rfl) ?_;refine Ay (Qgz h.msg.nm h.msg.da gl) ?_;simp only [Ym,Qx];unfold toR toG;refine Az (fun g=>?_) (fun g=>?_)
 ·rw [Af (Aa g)];exact eP
 rw [Ae (Ac g)];refine Ay (v:=d.Hops) (.of fun N=>Qzb _ h.hops N) ?_;refine Az (fun g=>?_) (fun g=>?_)
 ·rw [Af (Aa g)];exact eP
 rw [Ae (Ac g)];refine Az (fun g=>?_) (fun g=>?_)
 ·rw [Af (Aa g)];refine Ay (f:=fun N=>Q24 N ⟨⟩ d.Msg.TopicID) (v:=Qty d.Msg.TopicID) (Tot.bind (Qi6 _) (.ret _)) ?_;refine Az (fun g=>?_) (fun g=>?_)
  ·rw [Af (by simp_all)];exact eP
  rw [Ae (by simp_all)];exact eP
 rw [Ae (Ac g)];refine Az (fun g=>?_) (fun g=>?_)
 ·exact bd
 exact bd
theorem Z10 (s:List UInt8) (hs:s.length≤maxLen):Tot (fun N=>Q21 N s) (if Q3z s=true then (((Qh7 s:Nat):Int),true) else (0,false)):=by
 refine Aw ?_;unfold Q21 Q3z;rw [Ym];refine Az (fun g => .ret ?_) (fun g=>?_)
 ·grind
 have g:s.length=2:=by grind
 rw [Ad g];refine Ay (Q6y s hs) ?_
 cases Q0j s with
 | false=>exact Az (fun _ => .ret rfl) (fun g=>by cases g)
 | true=>
  refine Az (fun g=>by cases g) (fun _=>?_);have hlt:=Qn7 s;rw [g] at hlt;refine Ay (v:=((Qh7 s:Nat):Int)) ⟨11,fun N hN=>Z5u N s (by omega) (by omega)⟩ (.ret ?_)
  exact bS
def bk (e:Qg) (id:Int):Qb:=⟨e.Hops,⟨12,⟨e.Dup,e.QoS,e.Retain,false,false,e.Type'⟩,0,0,0,false,id,e.ID,0,[],e.Payload⟩⟩
def Z81 (R:Reg) (cl:List UInt8) (e:Qg) (id:Int):Prop:=(e.Type'=2->Q3z e.Topic=true∧id=((Qh7 e.Topic:Nat):Int))∧(e.Type'≠2->rID R cl e.Topic=(id,0)∧Qc9 R cl id=decide (e.Type'=1))
def good (R:Reg) (cl:List UInt8) (e:Qg) (v:Int) (d:Qb):Prop:=e.Proto=3∧dgE d gl=0∧((e.Kind=1∧Qd3 e v=0∧∃ id,d=bk e id∧Z81 R cl e id)∨(e.Kind=2∧sh3 e=e∧e.Msg.Type'≠12∧d=⟨e.Hops,e.Msg⟩))
def frQ (R:Reg) (cl:List UInt8) (e:Qg) (v:Int) (r:(Qb×Int)×Reg):Prop:=r.2=R∧(r.1.2=0->good R cl e v r.1.1)∧∀ d,good R cl e v d->r.1=(d,0)
theorem frQ.no {R:Reg} {cl:List UInt8} {e:Qg} {v c:Int} {x:Qb} (hc:c≠0) (h:∀ d,¬ good R cl e v d):frQ R cl e v ((x,c),R):=⟨rfl,fun h0=>absurd h0 hc,fun d hd=>absurd hd (h d)⟩
theorem Qxr {R:Reg} {cl:List UInt8} {e:Qg} {v:Int} {d d':Qb} (h:good R cl e v d) (h':good R cl e v d'):d=d':=by
 rcases h.2.2 with ⟨k,_,id,rfl,i1,i2⟩ | ⟨k,_,_,rfl⟩<;>rcases h'.2.2 with ⟨k',_,id',rfl,j1,j2⟩ | ⟨k',_,_,rfl⟩
 ·grind
 ·omega
 ·omega
 rfl
theorem frQ.yes {R:Reg} {cl:List UInt8} {e:Qg} {v:Int} {d:Qb} (h:good R cl e v d):frQ R cl e v ((d,0),R):=⟨rfl,fun _=>h,fun d' h'=>by rw [Qxr h h']⟩
structure WE (e:Qg):Prop where
 topic:e.Topic.length≤2000
 pay:e.Payload.length≤70000
 dg:Qvo ⟨e.Hops,e.Msg⟩
 pk:Z30 e.Packet
 sz:Q4.szs e.Frame.Values<700000000
 pr:e.Props.length≤maxLen
theorem LE.we {e:Qg} (h:LE e):WE e:=⟨h.topic,by have:=h.payload;omega,h.dg,h.pk.l,h.szs,by have:=h.props.len;grind [ml2]⟩
section
variable {e:Qg} (h:WE e) (R:Reg) (cl:List UInt8)
include h
theorem Z8o (p:e.Proto=3):TotP (fun N=>Q55 N e gl) (fun c=>c=0↔(sh3 e=e∧e.Msg.Type'≠12∧dgE ⟨e.Hops,e.Msg⟩ gl=0)):=by
 have hm:30≤maxLen:=gI
 unfold Q55;simp only [Qx];refine Az (fun g=>absurd (Aa g) (by omega)) (fun _=>?_);refine Az (fun g=>absurd (Aa g) (by omega)) (fun _=>?_);refine Az (fun _=>?_) (fun g=>absurd p (Ac g));refine Ax (Qmu (sh3 e) e ⟨Lk _,Ma h.dg.hops hm,Qyj,Z8k⟩) (fun w hw=>?_);refine Az (fun g => .ret ⟨fun x=>absurd x (by decide),fun x=>by simp_all⟩) (fun g=>?_);have hs:=hw.1 (by simp_all);refine Az (fun g => .ret ⟨fun x=>absurd x (by decide),fun x=>absurd (Aa g) x.2.1⟩) (fun g=>?_);exact Ay (Qgz (d:=⟨e.Hops,e.Msg⟩) h.dg.msg.nm h.dg.msg.da gl) (.ret ⟨fun x=>⟨hs,Ac g,x⟩,fun x=>x.2.2⟩)
theorem Zai {v:Int} (hv:Tot (fun N=>Jq N 3 e.Props) v) (p:e.Proto=3):TotP (fun N=>Q4v N e gl) (fun c=>c=0↔((e.Kind=1∧Qd3 e v=0)∨(e.Kind=2∧sh3 e=e∧e.Msg.Type'≠12∧dgE ⟨e.Hops,e.Msg⟩ gl=0))):=by
 unfold Q4v;refine Ay (v:=true) (.of fun _=>rfl) ?_;refine Az (fun h=>by cases h) (fun _=>?_);rw [Qx,Qx];refine Az (fun g=>?_) (fun g=>?_)
 ·have k:=Aa g;refine Ay (Z9l (Ma h.topic ml2) h.dg.hops h.dg.node h.pk h.sz hv) ?_;rw [Ym,Wc];refine Az (fun g => .ret ⟨fun x=>absurd x (Aa g),fun x=>?_⟩) (fun g=>?_)
  ·omega
  refine Az (fun g2=>absurd (Aa g2) (by have:=h.pay;grind)) (fun _ => .ret ⟨fun _ => .inl ⟨k,No.1 (Ac g)⟩,fun _=>rfl⟩)
 have k:=Ac g;refine Az (fun g=>?_) (fun g=>?_)
 ·simp_all [Z8o]
 have k2:=Ac g;refine .ret ⟨fun x=>absurd x (by decide),fun x=>?_⟩<;>simp_all
theorem Qxd {v:Int} (hv:Tot (fun N=>Jq N 3 e.Props) v):TotP (fun N=>Uj N R cl e) (frQ R cl e v):=by
 unfold Uj;rw [Ym];refine Az (fun g => .ret (frQ.no (by decide) fun d hd=>Aa g hd.1)) (fun g=>?_);have p:e.Proto=3:=No.1 (Ac g);refine Ay (v:=gl) (.of fun _=>rfl) ?_;refine Ax (Zai h hv p) (fun c hc=>?_);simp only [Ym,Qx];refine Az (fun g => .ret (frQ.no (Aa g) fun d hd=>?_)) (fun g=>?_)
 ·refine Aa g (hc.2 ?_)
  rcases hd.2.2 with x | x
  ·omega
  exact .inr ⟨x.1,x.2.1,x.2.2.1,by rw [← x.2.2.2];exact hd.2.1⟩
 have hc:=hc.1 (No.1 (Ac g));refine Ay (v:=e.Hops) (.of fun N=>Qzb _ h.dg.hops N) ?_;refine Az (fun g=>?_) (fun g=>?_)
 ·have k:=Aa g
  have h0:Qd3 e v=0:=by omega
  have no:∀ (c:Int) (x:Qb),c≠0->(∀ id,Z81 R cl e id->¬ dgE (bk e id) gl=0)->frQ R cl e v ((x,c),R):=fun c x h1 h2=>frQ.no h1 fun d hd=>by
   rcases hd.2.2 with ⟨_,_,id,rfl,hi⟩ | y
   ·exact h2 id hi hd.2.1
   omega
  have none':∀ x:Qb,(∀ id,¬ Z81 R cl e id)->frQ R cl e v ((x,11),R):=fun x h2=>no 11 x (by decide) fun id hi=>absurd hi (h2 id)
  have uid:∀ id id',Z81 R cl e id->Z81 R cl e id'->id=id':=fun id id' a b=>by
   by_cases t:e.Type'=2
   ·rw [(a.1 t).2,(b.1 t).2]
   have:=(a.2 t).1.symm.trans (b.2 t).1
   simp_all
  have fin:∀ id,Z81 R cl e id->TotP (fun N=>(We N).bind fun v33=>(Xa N (bk e id) v33).bind fun v35=>cond (decide (v35≠0)) (some (((⟨[],zMk⟩:Qb),v35),R)) (some ((bk e id,0),R))) (frQ R cl e v):=fun id hid=>by
   refine Ay (v:=gl) (.of fun _=>rfl) ?_;refine Ay (Qgz (d:=bk e id) (Lk _) h.pay gl) ?_;refine Az (fun g => .ret (no _ _ (Aa g) fun id' hid'=>?_)) (fun g => .ret (frQ.yes ⟨p,No.1 (Ac g),.inl ⟨k,h0,id,rfl,hid⟩⟩))
   grind
  refine Az (fun g=>?_) (fun g=>?_)
  ·have t2:=Aa g;refine Ay (f:=fun N=>Q37 N ⟨⟩ e.Topic) (Tot.bind (Z10 e.Topic (Ma h.topic ml2)) (.ret _)) ?_
   by_cases hs:Q3z e.Topic=true
   ·rw [Af hs];refine Az (fun g=>by cases g) (fun _=>?_);exact fin _ ⟨fun _=>⟨hs,rfl⟩,fun x=>absurd t2 x⟩
   rw [Ae hs];exact Az (fun _ => .ret (none' _ fun id hx=>hs (hx.1 t2).1)) (fun g=>by cases g)
  have t2:=Ac g
  have part:∀ b:Bool,decide (e.Type'=1)=b->TotP (fun N=>(Qgg N R cl e.Topic).bind fun v38=>cond (decide (v38.1.2≠0)) (some (((⟨[],zMk⟩:Qb),11),v38.2)) ((Q5t N v38.2 cl v38.1.1).bind fun v41=>cond (!(v41.1 == b)) (some (((⟨[],zMk⟩:Qb),11),v41.2)) ((We N).bind fun v44=>(Xa N (bk e v38.1.1) v44).bind fun v46=>cond (decide (v46≠0)) (some (((⟨[],zMk⟩:Qb),v46),v41.2)) (some ((bk e v38.1.1,0),v41.2))))) (frQ R cl e v):=fun b hb=>by
   refine Ay (v:=(rID R cl e.Topic,R)) (.of fun _=>rfl) ?_;refine Az (fun g => .ret (none' _ fun id hx=>?_)) (fun g=>?_)
   ·have:=(hx.2 t2).1
    simp_all
   have hid:rID R cl e.Topic=((rID R cl e.Topic).1,0):=Prod.ext rfl (No.1 (Ac g));refine Ay (v:=(Qc9 R cl (rID R cl e.Topic).1,R)) (.of fun _=>rfl) ?_;refine Az (fun g => .ret (none' _ fun id hx=>?_)) (fun g=>fin _ ⟨fun x=>absurd x t2,fun _=>⟨hid,?_⟩⟩)
   ·have q:=hx.2 t2
    grind
   grind
  refine Az (fun g=>part true g) (fun g=>part false g)
 have k:=Ac g
 have hc:e.Kind=2∧sh3 e=e∧e.Msg.Type'≠12∧dgE ⟨e.Hops,e.Msg⟩ gl=0:=by simp_all
 refine Ay (v:=gl) (.of fun _=>rfl) ?_;refine Ay (Qgz (d:=⟨e.Hops,e.Msg⟩) h.dg.msg.nm h.dg.msg.da gl) ?_;refine Az (fun g=>absurd hc.2.2.2 (Aa g)) (fun _ => .ret (frQ.yes ⟨p,hc.2.2.2,.inr ⟨hc.1,hc.2.1,hc.2.2.1,rfl⟩⟩))
end
end
end Go.Av
namespace Go.Av
noncomputable section
set_option maxHeartbeats 4000000
open Tp
theorem Qyk {m:Xl} (h:snE m=0):Qvl m.Type' m.Flags=true∧Qvi m=true∧Z3x m=0∧Z7q m=0:=by
 unfold snE at h
 grind [tlE]
theorem Qnx {d:Qb} (h:dgE d gl=0):snE d.Msg=0∧d.Hops.length≤4∧d.Hops.all Qci=true:=by
 grind [dgE]
theorem Z9v {l:List Vc} (h:l.all Qci=true) (h4:l.length≤4):Qjy l=true:=by
 grind [Qjy,Qci,Zaj]
theorem Zbk {n b:Int} (h:Qkf n b false=true):n=0:=by
 simp_all [Qkf]
theorem Zat {m:Xl} (h:snE m=0) (ht:m.Type'=12):(-1≤m.Flags.QoS∧m.Flags.QoS≤2)∧(0≤m.Flags.Type'∧m.Flags.Type'≤2)∧(0≤m.MsgID∧m.MsgID≤65535)∧(m.MsgID=0↔m.Flags.QoS<1)∧(m.Flags.Type'=2->(Qty m.TopicID).2=true) ∧
  m=⟨12,⟨m.Flags.Dup,m.Flags.QoS,m.Flags.Retain,false,false,m.Flags.Type'⟩,0,0,0,false,m.TopicID,m.MsgID,0,[],m.Data⟩:=by
 obtain ⟨hm,hr,h1,_⟩:=Qyk h;clear h;obtain ⟨k,⟨f1,f2,f3,f4,f5,f6⟩,g,r,ti,td,tp,mi,co,nm,da⟩:=m
 simp only at ht
 subst ht;unfold Qvl at hm;simp only [Le,Nl,Ag] at hm;obtain ⟨⟨q,t⟩,_,_,_,hw,hc,_,_⟩:=hm
 have hw:f4=false:=by
  rcases hw with x | x
  ·exact absurd x (by decide)
  simp_all
 have hc:f5=false:=by
  rcases hc with x | x
  ·exact absurd x (by decide)
  simp_all
 subst hw hc;unfold Qvi at hr;rw [show Q19 ⟨12,⟨f1,f2,f3,false,false,f6⟩,g,r,ti,td,tp,mi,co,nm,da⟩ = [1,7,8,10] from rfl] at hr;rw [Le,Le,Le,Le,Le,Le,Le,Le,Le] at hr;obtain ⟨hr1,h3,h4,h5,h6,h7,h8,h9,h10,h11⟩:=hr;have g3:g=0:=Zbk (b:=255) h3;have g4:r=0:=Zbk (b:=255) h4;have g5:co=0:=Zbk (b:=255) h5;have g6:ti=0:=Zbk (b:=65535) h6;have g8:=Qhv h8
 have g9:nm = []:=by simp_all
 have g11:td=false:=by simp_all
 have hz:(decide (mi=0) == decide (f2<1))=true:=by
  have e:(!(!(decide (mi=0) == decide (f2<1))))=true:=hr1;simpa using e
 grind [Z3x,tpE]
open Classical in
theorem Z39 {d:Qb} {s:List UInt8} (hd:dgE d gl=0) (ht:d.Msg.Type'=12) (hs:Q0j s=true) (h2:d.Msg.Flags.Type'=2->s.length=2):Qd3 (Qb6 d s) 0=0:=by
 obtain ⟨hsn,hl4,hall⟩:=Qnx hd;obtain ⟨q,t,mi,mq,_,_⟩:=Zat hsn ht
 have hP:PubT (Qb6 d s) (cq (Qb6 d s)) (Qor (Qb6 d s)) (Q70 (Qb6 d s)):=by
  refine ⟨.inr (.inr (.inl rfl)),rfl,?_,mi,?_,fun _ => .inr rfl,fun h=>absurd h (Nat.lt_irrefl 0),fun _=>?_,fun h=>absurd rfl h,⟨Ce 0,by show (0:Int)≤65535;decide⟩,fun h=>absurd rfl h,?_⟩
  ·by_cases g:d.Msg.Flags.QoS = -1
   ·exact .inr ⟨rfl,g⟩
   refine .inl ⟨?_,q.2⟩;show 0≤d.Msg.Flags.QoS;omega
  ·show cond (decide (d.Msg.Flags.QoS=1)) true (decide (d.Msg.Flags.QoS=2))=decide (d.Msg.MsgID≠0)
   grind
  ·show (decide (0≤d.Msg.Flags.Type'∧d.Msg.Flags.Type'≤2)&&((!(decide (d.Msg.Flags.Type'=2))||Q3z s)&&Qjy d.Hops))=true
   grind [Z9v,Q3z]
  unfold Q70;exact Ad ⟨rfl,rfl,rfl⟩
 grind [Qd3,Qb6]
theorem Z18 {l:List RTp} (h:(l.map (·.2.1)).Nodup) {i j:Nat} {a b:RTp} (ha:l[i]? = some a) (hb:l[j]? = some b) (e:a.2.1=b.2.1):a=b:=by
 obtain ⟨hi,rfl⟩:=Ld.1 ha;obtain ⟨hj,rfl⟩:=Ld.1 hb
 have h2:(l.map (·.2.1))[i]'(by simp_all)=(l.map (·.2.1))[j]'(by simp_all):=by simp_all
 grind [List.getElem_inj]
theorem Z5o {m:Nat} {R:Reg} (h:RI m R) {c n:List UInt8} {id:Int} (e:Qc1 R c id=(n,0)):rID R c n=(id,0)∧∃ C,Q47 R c=some C∧∃ b,(id,n,b)∈C.all:=by
 rw [Qkr] at e;rw [Qru]
 cases hc:Q47 R c with
 | none=>simp_all
 | some C=>
  rw [hc] at e;simp only [] at e ⊢;have hC:=h.get hc
  rcases Q4g id C.all 0 with ⟨e1,_⟩ | ⟨j,w,e1,_,hw⟩
  ·simp_all
  rw [e1] at e;rw [Bn] at hw;obtain ⟨wn,wb⟩:=w;cases e;have hmem:=Mk hw;refine ⟨?_,C,rfl,wb,hmem⟩
  rcases Q35 wn C.ids 0 with ⟨_,hn⟩ | ⟨i,v,e2,_,hv⟩
  ·exact absurd (by rw [hC.ids,Mr];grind) hn
  rw [e2];rw [Bn,hC.ids,Ll] at hv
  cases hq:C.all[i]? with
  | none=>simp_all
  | some q=>
   rw [hq] at hv;obtain ⟨qi,qn,qb⟩:=q;simp only [Mq,Lb,Lg] at hv;obtain ⟨rfl,rfl⟩:=hv;have:=Z18 hC.nn hq hw rfl
   simp_all
theorem Qtx {m:Nat} {R:Reg} (hr:RI m R) (hn:NI R) (cl:List UInt8) {d:Qb} (hok:Qvo d) (h0:(toR R cl d).2=0):good R cl (toR R cl d).1 0 d∧WE (toR R cl d).1∧(toR R cl d).1.Props = []:=by
 unfold toR toG at h0 ⊢
 by_cases hc:dgE d gl=0
 rotate_left
 ·simp_all
 rw [Ae (Ao hc)] at h0 ⊢
 by_cases ht:d.Msg.Type'=12
 rotate_left
 ·rw [Af ht];exact ⟨⟨rfl,hc,.inr ⟨rfl,rfl,ht,rfl⟩⟩,⟨Lk _,Lk _,hok,Qyj,Z8k,Lk _⟩,rfl⟩
 rw [Ae (Ao ht)] at h0 ⊢;obtain ⟨hsn,hl4,hall⟩:=Qnx hc;obtain ⟨_,_,_,_,p5,p6⟩:=Zat hsn ht
 have hbk:∀ s,d=bk (Qb6 d s) d.Msg.TopicID:=fun s=>by
  show d=⟨d.Hops,⟨12,⟨d.Msg.Flags.Dup,d.Msg.Flags.QoS,d.Msg.Flags.Retain,false,false,d.Msg.Flags.Type'⟩,0,0,0,false,d.Msg.TopicID,d.Msg.MsgID,0,[],d.Msg.Data⟩⟩;rw [← p6]
 have hwe:∀ s:List UInt8,s.length≤2000->WE (Qb6 d s):=fun s hs=>⟨hs,hok.msg.da,⟨hok.hops,hok.node,⟨Lk _,Lk _⟩⟩,Qyj,Z8k,Lk _⟩
 by_cases t2:d.Msg.Flags.Type'=2
 ·have hnm:=p5 t2;rw [Af t2,Ae (by grind)]
  have key:Qty d.Msg.TopicID=(Q4k d.Msg.TopicID.toNat 2,true)∧Q0j (Q4k d.Msg.TopicID.toNat 2)=true∧0≤d.Msg.TopicID∧d.Msg.TopicID≤65535:=by grind [Qty]
  obtain ⟨k1,k2,k3⟩:=key;rw [k1];have hlen:=Q0c 2 d.Msg.TopicID.toNat;refine ⟨⟨rfl,hc,.inl ⟨rfl,Z39 hc ht k2 (fun _=>hlen),d.Msg.TopicID,hbk _,⟨fun _=>⟨?_,?_⟩,fun x=>absurd t2 x⟩⟩⟩,hwe _ (by grind),rfl⟩
  ·show Q3z (Q4k d.Msg.TopicID.toNat 2)=true
   grind [Q3z]
  show d.Msg.TopicID=((Qh7 (Q4k d.Msg.TopicID.toNat 2):Nat):Int)
  grind [Qry]
 rw [Ae t2] at h0 ⊢
 by_cases hx:(Qc1 R cl d.Msg.TopicID).2=0
 rotate_left
 ·grind
 rw [Ae (Ao hx)] at h0 ⊢
 by_cases hf:Qc9 R cl d.Msg.TopicID=decide (d.Msg.Flags.Type'=1)
 rotate_left
 ·grind
 rw [Af hf];have hrn:Qc1 R cl d.Msg.TopicID=((Qc1 R cl d.Msg.TopicID).1,0):=Prod.ext rfl hx;obtain ⟨q1,C,q2,b,q3⟩:=Z5o hr hrn;have hnn:=(hn.get q2) _ q3;exact ⟨⟨rfl,hc,.inl ⟨rfl,Z39 hc ht hnn.1 (fun x=>absurd x t2),d.Msg.TopicID,hbk _,⟨fun x=>absurd x t2,fun _=>⟨q1,hf⟩⟩⟩⟩,hwe _ hnn.2,rfl⟩
theorem Z52 {e:Qg} {v:Int} (h0:Qd3 e v=0) (p:e.Proto=3) (id:Int):Qb6 (bk e id) e.Topic=e:=by
 obtain ⟨⟨_,hP⟩,⟨b1,b2,b3⟩,_,k⟩:=Z7j h0
 have hpr:e.Props = []:=by
  cases hq:e.Props with
  | nil=>rfl
  | cons a l=>have:=hP.props (by simp_all);omega
 have hch:e.Channel=0:=by
  by_cases x:e.Channel=0
  ·exact x
  exact absurd (hP.ch4 x) (by omega)
 obtain ⟨a1,a2,a3,a4,a5,a6,a7,a8,a9,a10,a11,a12,a13,a14,a15⟩:=e
 simp only at p k hpr hch b1 b2 b3
 subst p k hpr hch b1 b2 b3;rfl
theorem Qyl {e:Qg} (p:e.Proto=3) (k:e.Kind=2):sh3 e=Zb8 ⟨e.Hops,e.Msg⟩:=by
 unfold sh3 Zb8;rw [p,k];rfl
theorem Qw3 {m:Nat} {R:Reg} (hr:RI m R) (cl:List UInt8) {e:Qg} {v:Int} {d:Qb} (hg:good R cl e v d):toR R cl d=(e,0):=by
 obtain ⟨p,hc,hg⟩:=hg;unfold toR toG;rw [Ae (Ao hc)]
 rcases hg with ⟨k,h0,id,rfl,i1,i2⟩ | ⟨k,hs,h12,rfl⟩
 ·rw [Ae (show ¬ (bk e id).Msg.Type'≠12 from Ao rfl)];have hpe:=Z52 h0 p id
  by_cases t2:e.Type'=2
  ·grind [Q3z,Qn7,Z7n,Qty,bk]
  obtain ⟨j1,j2⟩:=i2 t2;have e1:Qc1 R cl (bk e id).Msg.TopicID=(e.Topic,0):=Z6g hr j1
  simp_all [bk,decide]
 simp_all [Qyl]
end
end Go.Av
namespace Go.Av
noncomputable section
set_option maxHeartbeats 4000000
open Tp
theorem Z0g:Tot (fun N=>Vn N 3 []) 0:=by
 first | exact .of fun N=>rfl | exact ⟨50,fun N hN=>by obtain ⟨M,rfl⟩:∃ M,N=M+50:=⟨N - 50,by omega⟩;kernel_rfl⟩
open Classical in
theorem Qwu {d:Qb} (hok:Qvo d) (ht:d.Msg.Type'≠12) (hc:dgE d gl=0):TotP (fun N=>Jp N (Zb8 d) gl) (· = 0):=by
 unfold Jp;refine Ax (Qd9 _ _ ⟨Lk _,Lk _,Qyj,Z8k⟩) (fun v hv=>?_);have hv:v=true:=hv.2 rfl;subst hv;refine Az (fun g=>by cases g) (fun _=>?_);refine Ay (v:=0) (.of fun N=>rfl) ?_;refine Az (fun g=>by cases g) (fun _=>?_);refine Az (fun _=>?_) (fun g=>by cases g);refine Ay (v:=true) ?_ ?_
 ·have:=Z3z (e:=(⟨3,2,[],[],0,false,false,0,[],0,d.Hops,0,Z8m,Zbe,⟨0,0,[],[]⟩⟩:Qg)) Qyj Z8k
  have e1:Q70 (⟨3,2,[],[],0,false,false,0,[],0,d.Hops,0,Z8m,Zbe,⟨0,0,[],[]⟩⟩:Qg)=true:=by
   unfold Q70;exact Ad ⟨rfl,rfl,rfl⟩
  rw [e1] at this;exact this
 refine Az (fun g=>by cases g) (fun _=>?_);rw [Qx];refine Az (fun g=>absurd (Aa g) ht) (fun _=>?_);refine Ay (Qqk (d:=d) hok.msg.nm hok.msg.da gl) (.ret hc)
theorem Qyt {e:Qg} (h:WE e) (hp:e.Props = []) (h0:Qd3 e 0=0):Tot (fun N=>W7 N e) 0:=by
 obtain ⟨N1,hn⟩:=Q7j e.Topic (Ma h.topic ml2);obtain ⟨N2,hs⟩:=Zwv (e:=e) (Ma h.topic ml2) h.dg.hops;obtain ⟨N3,hb⟩:=Z3z (e:=e) h.pk h.sz
 obtain ⟨N4,hv⟩:Tot (fun N=>Vn N 3 e.Props) 0:=by simp_all [Z0g]
 refine ⟨max (max N1 N2) (max N3 N4),fun N hN=>?_⟩<;>grind [Zvr]
theorem Qvb {R:Reg} {cl:List UInt8} {e:Qg} {d:Qb} (hok:Qvo d) (hg:good R cl e 0 d) (h:WE e) (hp:e.Props = []):TotP (fun N=>U4 N e gl) (· = 0):=by
 obtain ⟨p,hc,hg⟩:=hg;unfold U4;refine Ay (v:=true) (.of fun N=>Z3i N gl) ?_;refine Az (fun g=>by cases g) (fun _=>?_);rw [Qx,Qx]
 rcases hg with ⟨k,h0,_⟩ | ⟨k,hs,h12,rfl⟩
 ·refine Az (fun _=>?_) (fun g=>absurd k (Ac g));refine Ay (Qyt h hp h0) ?_;refine Az (fun _=>?_) (fun g=>by cases g);rw [Wc];exact Az (fun g=>absurd (Aa g) (by have:=h.pay;grind)) (fun _ => .ret rfl)
 grind [Qyl,Qwu]
theorem Z83 (a:Qb) (hl:a.Hops.length≤30):TotP (fun N=>Xz N a a) (· = true):=by
 unfold Xz;refine Az (fun g=>by simp_all) (fun _=>?_);rw [Ym];refine Az (fun g=>absurd rfl (Aa g)) (fun _=>?_);refine Q6t (L:=fun N n i=>X0 N a a n i) a.Hops.length (fun _=>True) (fun i hi _=>?_) (fun _=>?_) trivial
 ·show Stp _ _ _ (fun N n=>cond (Q0 .lss (i:Int) ((Q7 Vc.cells a.Hops).length:Int)) _ _);rw [Q6,Qn];refine AG (fun _=>?_) (fun g=>absurd (Ac g) (by omega));refine AF (Z0 hi) ?_;refine AF (Z0 hi) ?_;refine AG (fun g=>by simp_all) (fun _=>?_);rw [w64 _ (by omega)]
  exact i6
 show Stp _ _ _ (fun N n=>cond (Q0 .lss ((a.Hops.length:Nat):Int) ((Q7 Vc.cells a.Hops).length:Int)) _ _)
 simp_all [Q6,AG,AC]
def Qw5 (client:List UInt8) (N:Nat) (c:List Q5) (R:Reg):Option Bool:=
 (Gt N R client).bind fun v1=>
 (Qf N (⟨c⟩:Q2) client).bind fun v2=>
 (Qw N v1.1 v2.1).bind fun v3=>
 cond v3
 ((Jm N v1.2).bind fun v4=>
 (Qp N v2.2).bind fun v5=>
 (Z4 N v4.1 v5.1).bind fun v6=>
 some v6)
 (some false)
def Qiq (client:List UInt8) (e:Qg) (N:Nat) (c:List Q5) (R:Reg):Option Bool:=
 (Uj N R client e).bind fun v160=>
 cond (Q0 .eql v160.1.2 0)
 ((Q0w N v160.2 client v160.1.1).bind fun v163=>
 cond (Q0 .neq v163.1.2 0)
 (some false)
 ((Xp N v163.1.1 e).bind fun v166=>
 cond (!v166)
 (some false)
 (Qw5 client N c v163.2)))
 (Qw5 client N c v160.2)
def Qr1 (client:List UInt8) (d:Qb) (e:Qg) (N:Nat) (c:List Q5) (R:Reg):Option Bool:=
 (Q0w N R client d).bind fun v146=>
 cond (Q0 .eql v146.1.2 0)
 ((Uj N v146.2 client v146.1.1).bind fun v149=>
 cond (Q0 .neq v149.1.2 0)
 (some false)
 ((Xz N v149.1.1 d).bind fun v152=>
 cond (!v152)
 (some false)
 ((Xs N).bind fun v155=>
 (U4 N v146.1.1 v155).bind fun v157=>
 cond (Q0 .neq v157 0)
 (some false)
 (Qiq client e N c v149.2))))
 ((Xs N).bind fun v195=>
 (X5 N d v195).bind fun v197=>
 cond (Q0 .eql v197 0)
 (cond (Q0 .neq v146.1.2 11)
 (some false)
 (cond (Q0 .neq d.Msg.Type' 12)
 (some false)
 (Qiq client e N c v146.2)))
 (Qiq client e N c v146.2))
section
variable {R:Reg} {c:List Q5} (hs:Sim 20 R c) (hn:NI R) (client:List UInt8)
include hs hn
theorem Qs5:TotP (fun N=>Qw5 client N c R) (· = true):=Qxl hs (by decide) hn client
theorem Qx0 {e:Qg} (he:LE e):TotP (fun N=>Qiq client e N c R) (· = true):=by
 obtain ⟨v,_,hv⟩:=Qve 3 e.Props he.props;unfold Qiq;refine Ax (Qxd he.we R client hv) (fun r hr=>?_);obtain ⟨rfl,h1,h2⟩:=hr;rw [Qx];refine Az (fun g=>?_) (fun _=>Qs5 hs hn client);have hg:=h1 (Aa g)
 have hok:Qvo r.1.1:=by
  rcases hg.2.2 with ⟨_,_,id,q,_⟩ | ⟨_,_,_,q⟩
  ·rw [q];exact ⟨he.dg.hops,he.dg.node,⟨Lk _,by have:=he.payload;show e.Payload.length≤70000;omega⟩⟩
  rw [q];exact he.dg
 have ht:=Zav hok r.2 client;rw [Qw3 hs.ri client hg] at ht;refine Ay ht ?_;refine Az (fun g=>by cases g) (fun _=>?_);have hsm:Zbq e:=⟨he.we.pr,by have:=ml2;have h2:e.Hops.length≤30:=he.dg.hops;omega,he.we.pk,he.we.sz⟩;refine Ax (Qd9 e e hsm) (fun w hw=>?_)<;>simp_all [Qs5]
theorem Qzh {d:Qb} (hd:Qvo d) {e:Qg} (he:LE e):TotP (fun N=>Qr1 client d e N c R) (· = true):=by
 unfold Qr1;refine Ay (Zav hd R client) ?_;have hfk:=Qx0 hs hn client he;rw [Qx];refine Az (fun g=>?_) (fun g=>?_)
 ·obtain ⟨hg,hw,hp⟩:=Qtx hs.ri hn client hd (Aa g)
  have hv:Tot (fun N=>Jq N 3 (toR R client d).1.Props) 0:=by simp_all [Zcs]
  refine Ax (Qxd hw R client hv) (fun r hr=>?_);obtain ⟨h0,_,h2⟩:=hr;have h3:=h2 d hg;clear h2;obtain ⟨r1,r2⟩:=r
  simp only at h0 h3
  subst h0;subst h3;refine Az (fun g=>by cases g) (fun _=>?_);refine Ay (Z83 d hd.hops).tot ?_;refine Az (fun g=>by cases g) (fun _=>?_);refine Ay (v:=gl) (.of fun _=>rfl) ?_;refine Ay (Qvb hd hg hw hp).tot ?_<;>simp_all
 have g:=Ac g;refine Ay (v:=gl) (.of fun _=>rfl) ?_;refine Ay (Qqk (d:=d) hd.msg.nm hd.msg.da gl) ?_
 grind [Qx,toR,toG,Ym]
end
theorem Zcy {e:Qg} (h:Qgm e):OkE e:=⟨h.Topic_ok,h.Props_ok.1,h.Packet_ok.Filters_ok.1,h.Packet_ok.Props_ok.1,h.Packet_ok.Will_ok.Props_ok.1⟩
theorem Z17 (t:List Qi) (ht:t.length≤maxLen):TotP (fun N=>Q0k N t) (fun v=>v=true->t.length≤20∧∀ y∈t,y.Name.length≤200∧y.Client.length≤100):=by
 have hm:=Q7s;refine Q6t (L:=fun N n s=>Xt N t n s) t.length (fun i=>∀ j (h:j<t.length),j<i->(t[j]).Name.length≤200∧(t[j]).Client.length≤100) (fun i hi hj=>?_) (fun hj=>?_) (fun j _ hj=>by omega)
 ·show Stp _ _ _ (fun N n=>cond (Q0 .lss (i:Int) ((Q7 Qi.cells t).length:Int)) _ _);rw [Q6,Qn];refine AG (fun _=>?_) (fun h=>by simp_all);refine AF (Z0 hi) ?_;rw [Wc];refine AG (fun _=>AC (fun h=>nomatch h)) (fun h0=>?_);refine AF (Z0 hi) ?_;rw [Wc];refine AG (fun _=>AC (fun h=>nomatch h)) (fun h1=>?_);have h0:=Ac h0;have h1:=Ac h1;rw [w64 _ (by omega)];refine AD (L:=fun N n s=>Xt N t n s) _ ⟨by omega,fun j hj' hji=>?_⟩
  grind
 show Stp _ _ _ (fun N n=>cond (Q0 .lss (t.length:Int) ((Q7 Qi.cells t).length:Int)) _ _);rw [Q6,Qn];refine AG (fun h=>by simp_all) (fun _=>AC (fun h=>?_))
 grind [Uy,List.getElem_of_mem]
theorem Z8h (t:List Qi) (client:List UInt8) (d:Qb) (e:Qg) (ht:t.length≤maxLen) (he:Qgm e):∃ N,V9 N t client d e=some true:=by
 have key:TotP (fun N=>V9 N t client d e) (· = true):=by
  unfold V9;refine Ay (v:=true) (.of fun _=>rfl) ?_;refine Az (fun h=>by cases h) (fun _=>?_);refine Ax (Z17 t ht) (fun v hv=>?_);refine Az (fun _ => .ret rfl) (fun g=>?_);obtain ⟨h1,h2⟩:=hv (by simp_all);refine Az (fun _ => .ret rfl) (fun _=>?_);refine Ax (Qvv d) (fun v hv=>?_);refine Az (fun _ => .ret rfl) (fun g=>?_);have hd:Qvo d:=hv (by simp_all);refine Ax (Z0i e (Zcy he) he.Frame_ok.Values_ok.2) (fun v hv=>?_);refine Az (fun _ => .ret rfl) (fun g=>?_);have hle:=hv (by simp_all)
  have hm:200≤maxLen:=gI
  refine Qv6 (L:=fun N n i c R=>Ye N t client d e n i c R) (K:=fun N c R=>Qr1 client d e N c R) (P:=NI) h1 (fun y hy=>Ma (h2 y hy).1 hm) Z8j (fun R hR y hy=>Z8d hR y.Client (by grind) y.Name (by grind)) (fun R hR y hy=>Z9e hR y.Client (by grind) y.Name (by grind) y.ID) (fun N n i c R=>?_) (fun R c hs hn=>Qzh hs hn client hd hle);show cond (Q0 .lss i ((Q7 Qi.cells t).length:Int)) _ _=_;rw [Q6];rfl
 obtain ⟨N,hN⟩:=key.tot;exact ⟨N,hN N (Lh _)⟩
end
end Go.Av
