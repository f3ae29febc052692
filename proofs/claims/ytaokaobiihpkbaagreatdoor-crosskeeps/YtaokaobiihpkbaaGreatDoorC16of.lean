/- Part of the proof of CrossKeeps: for every input the law returns true; no condition. -/
import Derived.Test.YtaokaobiihpkbaaGreatDoorAvTac
import Derived.Test.YtaokaobiihpkbaaGreatDoorChks
import Derived.Test.YtaokaobiihpkbaaGreatDoorSeat1
import Derived.Test.YtaokaobiihpkbaaGreatDoorAvClosed4
import Derived.Test.YtaokaobiihpkbaaGreatDoorLiftTy
import Derived.KernelRfl
import Derived.Test.YtaokaobiihpkbaaGreatDoorAvAbb
set_option linter.all false
namespace Go.Av
noncomputable section
open Go.Proofs
set_option maxRecDepth 100000
attribute [local irreducible] Xu Qw Q8g Q7d Qru Qrc
def tabL:List (Int×Int×Int×Bool×Bool) := [(0,25,0,false,true),(64,1,0,false,false),(65,2,0,false,false),(66,2,0,false,false),(67,5,0,false,false),(68,6,0,false,false),(69,22,0,false,true),(80,3,1,false,false),(81,7,1,false,false),(82,5,1,false,false),(83,6,1,false,false),(84,9,1,false,false),(85,10,1,false,false),(86,2,1,false,false),(96,4,2,false,false),(97,8,2,false,false),(112,5,4,false,false),(113,9,4,false,false),(114,11,4,false,false),(115,16,4,false,false),(116,13,4,false,false),(128,6,8,false,false),(129,10,8,false,false),(130,12,8,false,false),(131,17,8,false,false),(132,14,8,false,false),(148,15,16,false,false),(152,18,16,false,false),(160,19,1,true,false),(161,20,1,true,false),(163,21,1,true,false),(176,19,4,true,false),(177,20,4,true,false),(179,21,4,true,false),(192,22,1,true,true),(193,23,1,true,true),(208,22,4,true,true),(209,23,4,true,true),(224,24,1,true,true),(240,24,4,true,true)]
def Q49 (k:Nat):Int×Int×Int×Bool×Bool:=tabL.getD k (0,0,0,false,false)
def Qjc (k:Nat):Int:=(Q49 k).1
def bsI (n:Int):Nat:=((List.range 40).filter fun k=>Qjc k<n).length
end
end Go.Av
namespace Go.Av
noncomputable section
open Go.Proofs
set_option maxRecDepth 100000
attribute [local irreducible] Xu Qw Q8g Q7d Qru Qrc
def ofB (n:Int):Bool:=decide (bsI n<40)&&decide (Qjc (bsI n)=n)
def ofT (n:Int):Int×Int×Int×Bool×Bool:=if ofB n=true then Q49 (bsI n) else (0,0,0,false,false)
end
end Go.Av
namespace Go.Av
noncomputable section
open Go.Proofs
set_option maxRecDepth 100000
attribute [local irreducible] Xu Qw Q8g Q7d Qru Qrc
def Qz5 (k:Int):List Int:=(List.range 17).flatMap fun (w:Nat)=>(tabL.filter fun r=>r.2.1 == k&&r.2.2.1 == (w:Int)).map (·.1)
end
end Go.Av
namespace Go.Av
noncomputable section
open Go.Proofs
set_option maxRecDepth 1000000
end
end Go.Av
namespace Go.Av
noncomputable section
open Go.Proofs
set_option maxRecDepth 1000000
section
end
end
end Go.Av
namespace Go.Av
noncomputable section
open Go.Proofs
def ofS (code:Int):Qc2:=⟨(ofT code).1,(ofT code).2.1,(ofT code).2.2.1,(ofT code).2.2.2.1,(ofT code).2.2.2.2⟩
end
end Go.Av
namespace Go.Av
noncomputable section
section
variable {P:Program} {Gl:Nat→Option (List PV)}
theorem Q69 {f e:Nat} {H:List AObj} {Q:AV→List AObj→Prop} (h1:Qw P Gl f [.p .nilSlice] H Q) (h2:Qw P Gl f [.p .sliceS] H Q):Qw P Gl f [.p (.slice e [])] H Q:=by
 refine ⟨h1.1,fun θ w cargs ha hH hG=>?_⟩;have hs:cargs.size=1:=ha.1;have hr:=ha.2 0 _ rfl
 have key:cargs.getD 0 Z3 = .slice none 0 0∨∃ a c,cargs.getD 0 Z3 = .slice (some a) 0 c:=by
  generalize cargs.getD 0 Z3=v at hr
  cases hr with
  | p _ _ hp=>
   cases hp with
   | sliceE _ a c hn=>
    cases a with
    | none=>rw [hn rfl];exact .inl rfl
    | some a=>exact .inr ⟨a,c,rfl⟩
   | slice _ _ blk off cap val he hr hcap hS hc hone hv=>exact .inr ⟨_,cap,rfl⟩
 rcases key with e | ⟨a,c,e⟩
 ·refine h1.2 θ w cargs ⟨hs,fun i u hu=>?_⟩ hH hG
  cases i with
  | zero=>simp at hu;subst hu;rw [e];exact .p _ _ .nilSlice
  | succ i=>simp at hu
 refine h2.2 θ w cargs ⟨hs,fun i u hu=>?_⟩ hH hG
 cases i with
 | zero=>simp at hu;subst hu;rw [e];exact .p _ _ (.sliceS a c)
 | succ i=>simp at hu
end
end
end Go.Av
namespace Go.Av
noncomputable section
open Go.Proofs
set_option maxRecDepth 100000
set_option maxHeartbeats 4000000
attribute [local irreducible] Xu Qw Q8g Q7d Qru Qrc Qi6
def Q16 (_N:Nat) (s:List Qk):Option (List Qk):=cond (Nat.beq s.length 0) (some []) (cond (Nat.ble ((0+s.length+4096) * 48) 17592186044416) (some s) none)
theorem Q2z {N} {s:List Qk} {r} (h:Q16 N s=some r):GC Tryz.prog G1 72 (.p (.slice 4 (Q8 Qk.cells s)) :: []) [] (.slice 4 0 0 r.length) (.cells (Wo Qk.cells r) :: []):=by
 cases s with
 | nil=>
  obtain rfl:=Qn h;refine Q69 (e:=4) ?_ ?_
  ·refine Ul k72 (Ls rfl) ?_;show Exists _;exact ⟨rho [0],(rS <| rN),(hV (Ls rfl) <| hN),rfl,rfl,(roE rfl <| roN)⟩
  refine Ul k72 (Ls rfl) ?_;show Exists _;exact ⟨(fun i=>i),(rE rfl <| rN),(hE rfl <| hN),rfl,rfl,(roE rfl <| roN)⟩
 | cons x l=>
  obtain ⟨h1,h⟩:=Q59 h;obtain rfl:=Qn h;generalize hs:x::l=s at h1
  have hne:(!(Q8 Qk.cells s).isEmpty)=true:=by subst hs;rfl
  have hb:Nat.beq (Q8 Qk.cells s).length 0=false:=by subst hs;rfl
  clear hs;refine Ul k72 (Ls rfl) ?_;refine Q3b hne ?_;refine Qdh (c:=Qk.cells) (vs:=s) rfl ?_;refine ifF hb ?_;refine Q3b (Xk (c:=Qk.cells) (e:=4) (l:=([]:List Qk)) (fun _=>rfl) rfl (by rw [Q5];exact h1)) ?_;show Exists _;exact ⟨rho [1],(rL (by simp [Q8]) rfl <| rN),(hO rfl <| hN),rfl,rfl,(roE (Js _ _ _) <| roN)⟩
def Q13 (_N:Nat) (s:List Vd):Option (List Vd):=cond (Nat.beq s.length 0) (some []) (cond (Nat.ble ((0+s.length+4096) * 24) 17592186044416) (some s) none)
theorem Q7r {N} {s:List Vd} {r} (h:Q13 N s=some r):GC Tryz.prog G1 73 (.p (.slice 2 (Q8 Vd.cells s)) :: []) [] (.slice 2 0 0 r.length) (.cells (Wo Vd.cells r) :: []):=by
 cases s with
 | nil=>
  obtain rfl:=Qn h;refine Q69 (e:=2) ?_ ?_
  ·refine Ul k73 (Ls rfl) ?_;show Exists _;exact ⟨rho [0],(rS <| rN),(hV (Ls rfl) <| hN),rfl,rfl,(roE rfl <| roN)⟩
  refine Ul k73 (Ls rfl) ?_;show Exists _;exact ⟨(fun i=>i),(rE rfl <| rN),(hE rfl <| hN),rfl,rfl,(roE rfl <| roN)⟩
 | cons x l=>
  obtain ⟨h1,h⟩:=Q59 h;obtain rfl:=Qn h;generalize hs:x::l=s at h1
  have hne:(!(Q8 Vd.cells s).isEmpty)=true:=by subst hs;rfl
  have hb:Nat.beq (Q8 Vd.cells s).length 0=false:=by subst hs;rfl
  clear hs;refine Ul k73 (Ls rfl) ?_;refine Q3b hne ?_;refine Qdh (c:=Vd.cells) (vs:=s) rfl ?_;refine ifF hb ?_;refine Q3b (Xk (c:=Vd.cells) (e:=2) (l:=([]:List Vd)) (fun _=>rfl) rfl (by rw [Q5];exact h1)) ?_;show Exists _;exact ⟨rho [1],(rL (by simp [Q8]) rfl <| rN),(hO rfl <| hN),rfl,rfl,(roE (Js _ _ _) <| roN)⟩
def Q6a (_N:Nat) (s:List Int):Option (List Int):=cond (Nat.beq s.length 0) (some []) (cond (Nat.ble ((0+s.length+4096) * 8) 17592186044416) (some s) none)
theorem Qel {N} {s:List Int} {r} (h:Q6a N s=some r):GC Tryz.prog G1 102 (.p (.slice 1 (Q8 (cI .i64) s)) :: []) [] (.slice 1 0 0 r.length) (.cells (Wo (cI .i64) r) :: []):=by
 cases s with
 | nil=>
  obtain rfl:=Qn h;refine Q69 (e:=1) ?_ ?_
  ·refine Ul Z1e (Ls rfl) ?_;show Exists _;exact ⟨rho [0],(rS <| rN),(hV (Ls rfl) <| hN),rfl,rfl,(roE rfl <| roN)⟩
  refine Ul Z1e (Ls rfl) ?_;show Exists _;exact ⟨(fun i=>i),(rE rfl <| rN),(hE rfl <| hN),rfl,rfl,(roE rfl <| roN)⟩
 | cons x l=>
  obtain ⟨h1,h⟩:=Q59 h;obtain rfl:=Qn h;generalize hs:x::l=s at h1
  have hne:(!(Q8 (cI .i64) s).isEmpty)=true:=by subst hs;rfl
  have hb:Nat.beq (Q8 (cI .i64) s).length 0=false:=by subst hs;rfl
  clear hs;refine Ul Z1e (Ls rfl) ?_;refine Q3b hne ?_;refine Qdh (c:=(cI .i64)) (vs:=s) rfl ?_;refine ifF hb ?_;refine Q3b (Xk (c:=(cI .i64)) (e:=1) (l:=([]:List Int)) (fun _=>rfl) rfl (by rw [Q5];exact h1)) ?_;show Exists _;exact ⟨rho [1],(rL (by simp [Q8]) rfl <| rN),(hO rfl <| hN),rfl,rfl,(roE (Js _ _ _) <| roN)⟩
def Q2n (_N:Nat) (s:List Z0):Option (List Z0):=cond (Nat.beq s.length 0) (some []) (cond (Nat.ble ((0+s.length+4096) * 40) 17592186044416) (some s) none)
theorem Q9r {N} {s:List Z0} {r} (h:Q2n N s=some r):GC Tryz.prog G1 103 (.p (.slice 5 (Q8 Z0.cells s)) :: []) [] (.slice 5 0 0 r.length) (.cells (Wo Z0.cells r) :: []):=by
 cases s with
 | nil=>
  obtain rfl:=Qn h;refine Q69 (e:=5) ?_ ?_
  ·refine Ul Z1l (Ls rfl) ?_;show Exists _;exact ⟨rho [0],(rS <| rN),(hV (Ls rfl) <| hN),rfl,rfl,(roE rfl <| roN)⟩
  refine Ul Z1l (Ls rfl) ?_;show Exists _;exact ⟨(fun i=>i),(rE rfl <| rN),(hE rfl <| hN),rfl,rfl,(roE rfl <| roN)⟩
 | cons x l=>
  obtain ⟨h1,h⟩:=Q59 h;obtain rfl:=Qn h;generalize hs:x::l=s at h1
  have hne:(!(Q8 Z0.cells s).isEmpty)=true:=by subst hs;rfl
  have hb:Nat.beq (Q8 Z0.cells s).length 0=false:=by subst hs;rfl
  clear hs;refine Ul Z1l (Ls rfl) ?_;refine Q3b hne ?_;refine Qdh (c:=Z0.cells) (vs:=s) rfl ?_;refine ifF hb ?_;refine Q3b (Xk (c:=Z0.cells) (e:=5) (l:=([]:List Z0)) (fun _=>rfl) rfl (by rw [Q5];exact h1)) ?_;show Exists _;exact ⟨rho [1],(rL (by simp [Q8]) rfl <| rN),(hO rfl <| hN),rfl,rfl,(roE (Js _ _ _) <| roN)⟩
end
end Go.Av
