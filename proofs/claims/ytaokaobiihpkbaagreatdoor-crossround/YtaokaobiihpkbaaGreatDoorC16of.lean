/- Part of the proof of CrossRound: for every input the law returns true; no condition. -/
import Derived.Test.YtaokaobiihpkbaaGreatDoorAvTac
import Derived.Test.YtaokaobiihpkbaaGreatDoorChks
import Derived.Test.YtaokaobiihpkbaaGreatDoorSeat1
import Derived.Test.YtaokaobiihpkbaaGreatDoorAvClosed4
import Derived.Test.YtaokaobiihpkbaaGreatDoorLiftTy
import Derived.KernelRfl
import Derived.Test.YtaokaobiihpkbaaGreatDoorAvAbb
set_option linter.all false
namespace Go.Av
noncomputable section
open Go.Proofs
set_option maxRecDepth 100000
attribute [local irreducible] Xd Qu Q6p Q5q Qoa Qoi
def tabL:List (Int×Int×Int×Bool×Bool) := [(0,25,0,false,true),(64,1,0,false,false),(65,2,0,false,false),(66,2,0,false,false),(67,5,0,false,false),(68,6,0,false,false),(69,22,0,false,true),(80,3,1,false,false),(81,7,1,false,false),(82,5,1,false,false),(83,6,1,false,false),(84,9,1,false,false),(85,10,1,false,false),(86,2,1,false,false),(96,4,2,false,false),(97,8,2,false,false),(112,5,4,false,false),(113,9,4,false,false),(114,11,4,false,false),(115,16,4,false,false),(116,13,4,false,false),(128,6,8,false,false),(129,10,8,false,false),(130,12,8,false,false),(131,17,8,false,false),(132,14,8,false,false),(148,15,16,false,false),(152,18,16,false,false),(160,19,1,true,false),(161,20,1,true,false),(163,21,1,true,false),(176,19,4,true,false),(177,20,4,true,false),(179,21,4,true,false),(192,22,1,true,true),(193,23,1,true,true),(208,22,4,true,true),(209,23,4,true,true),(224,24,1,true,true),(240,24,4,true,true)]
def Q2n (k:Nat):Int×Int×Int×Bool×Bool:=tabL.getD k (0,0,0,false,false)
def Qgw (k:Nat):Int:=(Q2n k).1
def bsI (n:Int):Nat:=((List.range 40).filter fun k=>Qgw k<n).length
end
end Go.Av
namespace Go.Av
noncomputable section
open Go.Proofs
set_option maxRecDepth 100000
attribute [local irreducible] Xd Qu Q6p Q5q Qoa Qoi
def ofB (n:Int):Bool:=decide (bsI n<40)&&decide (Qgw (bsI n)=n)
def ofT (n:Int):Int×Int×Int×Bool×Bool:=if ofB n=true then Q2n (bsI n) else (0,0,0,false,false)
end
end Go.Av
namespace Go.Av
noncomputable section
open Go.Proofs
set_option maxRecDepth 100000
attribute [local irreducible] Xd Qu Q6p Q5q Qoa Qoi
def Qxe (k:Int):List Int:=(List.range 17).flatMap fun (w:Nat)=>(tabL.filter fun r=>r.2.1 == k&&r.2.2.1 == (w:Int)).map (·.1)
end
end Go.Av
namespace Go.Av
noncomputable section
open Go.Proofs
set_option maxRecDepth 1000000
end
end Go.Av
namespace Go.Av
noncomputable section
open Go.Proofs
set_option maxRecDepth 1000000
section
end
end
end Go.Av
namespace Go.Av
noncomputable section
open Go.Proofs
def ofS (code:Int):Qa9:=⟨(ofT code).1,(ofT code).2.1,(ofT code).2.2.1,(ofT code).2.2.2.1,(ofT code).2.2.2.2⟩
end
end Go.Av
namespace Go.Av
noncomputable section
section
variable {P:Program} {Gl:Nat→Option (List PV)}
theorem Q4a {f e:Nat} {H:List AObj} {Q:AV→List AObj→Prop} (h1:Qu P Gl f [.p .nilSlice] H Q) (h2:Qu P Gl f [.p .sliceS] H Q):Qu P Gl f [.p (.slice e [])] H Q:=by
 refine ⟨h1.1,fun θ w cargs ha hH hG=>?_⟩;have hs:cargs.size=1:=ha.1;have hr:=ha.2 0 _ rfl
 have key:cargs.getD 0 Z1 = .slice none 0 0∨∃ a c,cargs.getD 0 Z1 = .slice (some a) 0 c:=by
  generalize cargs.getD 0 Z1=v at hr
  cases hr with
  | p _ _ hp=>
   cases hp with
   | sliceE _ a c hn=>
    cases a with
    | none=>rw [hn rfl];exact .inl rfl
    | some a=>exact .inr ⟨a,c,rfl⟩
   | slice _ _ blk off cap val he hr hcap hS hc hone hv=>exact .inr ⟨_,cap,rfl⟩
 rcases key with e | ⟨a,c,e⟩
 ·refine h1.2 θ w cargs ⟨hs,fun i u hu=>?_⟩ hH hG
  cases i with
  | zero=>simp at hu;subst hu;rw [e];exact .p _ _ .nilSlice
  | succ i=>simp at hu
 refine h2.2 θ w cargs ⟨hs,fun i u hu=>?_⟩ hH hG
 cases i with
 | zero=>simp at hu;subst hu;rw [e];exact .p _ _ (.sliceS a c)
 | succ i=>simp at hu
end
end
end Go.Av
namespace Go.Av
noncomputable section
open Go.Proofs
set_option maxRecDepth 100000
set_option maxHeartbeats 4000000
attribute [local irreducible] Xd Qu Q6p Q5q Qoa Qoi Qgy
def Gr (_N:Nat) (s:List Zq):Option (List Zq):=cond (Nat.beq s.length 0) (some []) (cond (Nat.ble ((0+s.length+4096) * 48) 17592186044416) (some s) none)
theorem Q1n {N} {s:List Zq} {r} (h:Gr N s=some r):GC Tryz.prog G1 72 (.p (.slice 4 (Q9 Zq.cells s)) :: []) [] (.slice 4 0 0 r.length) (.cells (W8 Zq.cells r) :: []):=by
 cases s with
 | nil=>
  obtain rfl:=Qv h;refine Q4a (e:=4) ?_ ?_
  ·refine Vm k72 (Lr rfl) ?_;show Exists _;exact ⟨rho [0],(rS <| rN),(hV (Lr rfl) <| hN),rfl,rfl,(roE rfl <| roN)⟩
  refine Vm k72 (Lr rfl) ?_;show Exists _;exact ⟨(fun i=>i),(rE rfl <| rN),(hE rfl <| hN),rfl,rfl,(roE rfl <| roN)⟩
 | cons x l=>
  obtain ⟨h1,h⟩:=Q54 h;obtain rfl:=Qv h;generalize hs:x::l=s at h1
  have hne:(!(Q9 Zq.cells s).isEmpty)=true:=by subst hs;rfl
  have hb:Nat.beq (Q9 Zq.cells s).length 0=false:=by subst hs;rfl
  clear hs;refine Vm k72 (Lr rfl) ?_;refine Q2t hne ?_;refine Qbm (c:=Zq.cells) (vs:=s) rfl ?_;refine ifF hb ?_;refine Q2t (Xj (c:=Zq.cells) (e:=4) (l:=([]:List Zq)) (fun _=>rfl) rfl (by rw [Q6];exact h1)) ?_;show Exists _;exact ⟨rho [1],(rL (by simp [Q9]) rfl <| rN),(hO rfl <| hN),rfl,rfl,(roE (Uy _ _ _) <| roN)⟩
def Gk (_N:Nat) (s:List V0):Option (List V0):=cond (Nat.beq s.length 0) (some []) (cond (Nat.ble ((0+s.length+4096) * 24) 17592186044416) (some s) none)
theorem Q5g {N} {s:List V0} {r} (h:Gk N s=some r):GC Tryz.prog G1 73 (.p (.slice 2 (Q9 V0.cells s)) :: []) [] (.slice 2 0 0 r.length) (.cells (W8 V0.cells r) :: []):=by
 cases s with
 | nil=>
  obtain rfl:=Qv h;refine Q4a (e:=2) ?_ ?_
  ·refine Vm k73 (Lr rfl) ?_;show Exists _;exact ⟨rho [0],(rS <| rN),(hV (Lr rfl) <| hN),rfl,rfl,(roE rfl <| roN)⟩
  refine Vm k73 (Lr rfl) ?_;show Exists _;exact ⟨(fun i=>i),(rE rfl <| rN),(hE rfl <| hN),rfl,rfl,(roE rfl <| roN)⟩
 | cons x l=>
  obtain ⟨h1,h⟩:=Q54 h;obtain rfl:=Qv h;generalize hs:x::l=s at h1
  have hne:(!(Q9 V0.cells s).isEmpty)=true:=by subst hs;rfl
  have hb:Nat.beq (Q9 V0.cells s).length 0=false:=by subst hs;rfl
  clear hs;refine Vm k73 (Lr rfl) ?_;refine Q2t hne ?_;refine Qbm (c:=V0.cells) (vs:=s) rfl ?_;refine ifF hb ?_;refine Q2t (Xj (c:=V0.cells) (e:=2) (l:=([]:List V0)) (fun _=>rfl) rfl (by rw [Q6];exact h1)) ?_;show Exists _;exact ⟨rho [1],(rL (by simp [Q9]) rfl <| rN),(hO rfl <| hN),rfl,rfl,(roE (Uy _ _ _) <| roN)⟩
def Q4k (_N:Nat) (s:List Int):Option (List Int):=cond (Nat.beq s.length 0) (some []) (cond (Nat.ble ((0+s.length+4096) * 8) 17592186044416) (some s) none)
theorem Qd2 {N} {s:List Int} {r} (h:Q4k N s=some r):GC Tryz.prog G1 102 (.p (.slice 1 (Q9 (cI .i64) s)) :: []) [] (.slice 1 0 0 r.length) (.cells (W8 (cI .i64) r) :: []):=by
 cases s with
 | nil=>
  obtain rfl:=Qv h;refine Q4a (e:=1) ?_ ?_
  ·refine Vm Qyr (Lr rfl) ?_;show Exists _;exact ⟨rho [0],(rS <| rN),(hV (Lr rfl) <| hN),rfl,rfl,(roE rfl <| roN)⟩
  refine Vm Qyr (Lr rfl) ?_;show Exists _;exact ⟨(fun i=>i),(rE rfl <| rN),(hE rfl <| hN),rfl,rfl,(roE rfl <| roN)⟩
 | cons x l=>
  obtain ⟨h1,h⟩:=Q54 h;obtain rfl:=Qv h;generalize hs:x::l=s at h1
  have hne:(!(Q9 (cI .i64) s).isEmpty)=true:=by subst hs;rfl
  have hb:Nat.beq (Q9 (cI .i64) s).length 0=false:=by subst hs;rfl
  clear hs;refine Vm Qyr (Lr rfl) ?_;refine Q2t hne ?_;refine Qbm (c:=(cI .i64)) (vs:=s) rfl ?_;refine ifF hb ?_;refine Q2t (Xj (c:=(cI .i64)) (e:=1) (l:=([]:List Int)) (fun _=>rfl) rfl (by rw [Q6];exact h1)) ?_;show Exists _;exact ⟨rho [1],(rL (by simp [Q9]) rfl <| rN),(hO rfl <| hN),rfl,rfl,(roE (Uy _ _ _) <| roN)⟩
def Q1a (_N:Nat) (s:List Zb):Option (List Zb):=cond (Nat.beq s.length 0) (some []) (cond (Nat.ble ((0+s.length+4096) * 40) 17592186044416) (some s) none)
theorem Q7p {N} {s:List Zb} {r} (h:Q1a N s=some r):GC Tryz.prog G1 103 (.p (.slice 5 (Q9 Zb.cells s)) :: []) [] (.slice 5 0 0 r.length) (.cells (W8 Zb.cells r) :: []):=by
 cases s with
 | nil=>
  obtain rfl:=Qv h;refine Q4a (e:=5) ?_ ?_
  ·refine Vm Qyx (Lr rfl) ?_;show Exists _;exact ⟨rho [0],(rS <| rN),(hV (Lr rfl) <| hN),rfl,rfl,(roE rfl <| roN)⟩
  refine Vm Qyx (Lr rfl) ?_;show Exists _;exact ⟨(fun i=>i),(rE rfl <| rN),(hE rfl <| hN),rfl,rfl,(roE rfl <| roN)⟩
 | cons x l=>
  obtain ⟨h1,h⟩:=Q54 h;obtain rfl:=Qv h;generalize hs:x::l=s at h1
  have hne:(!(Q9 Zb.cells s).isEmpty)=true:=by subst hs;rfl
  have hb:Nat.beq (Q9 Zb.cells s).length 0=false:=by subst hs;rfl
  clear hs;refine Vm Qyx (Lr rfl) ?_;refine Q2t hne ?_;refine Qbm (c:=Zb.cells) (vs:=s) rfl ?_;refine ifF hb ?_;refine Q2t (Xj (c:=Zb.cells) (e:=5) (l:=([]:List Zb)) (fun _=>rfl) rfl (by rw [Q6];exact h1)) ?_;show Exists _;exact ⟨rho [1],(rL (by simp [Q9]) rfl <| rN),(hO rfl <| hN),rfl,rfl,(roE (Uy _ _ _) <| roN)⟩
end
end Go.Av
