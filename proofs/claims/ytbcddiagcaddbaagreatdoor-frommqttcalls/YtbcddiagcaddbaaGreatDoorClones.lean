/- Part of FrommqttCalls: the law returns true; no condition. -/
import Derived.Test.YtbcddiagcaddbaaGreatDoorShelfJ
import Derived.Test.YtbcddiagcaddbaaGreatDoorLiftTy
import Derived.Test.YtbcddiagcaddbaaGreatDoorChks
import Derived.Test.YtbcddiagcaddbaaGreatDoorSeat1
import Derived.KernelRfl
set_option linter.all false
namespace Go.Av
noncomputable section
open Go.Proofs
set_option maxRecDepth 100000
set_option maxHeartbeats 4000000
attribute [local irreducible] Q06 Ue Qdu Qjw Qxl Qy1 Qj3
def Q4j (_N:Nat) (s:List Q6):Option (List Q6):=cond (Nat.beq s.length 0) (some []) (cond (Nat.ble ((0+s.length+4096) * 48) 17592186044416) (some s) none)
theorem Q73 {N} {s:List Q6} {r} (h:Q4j N s=some r):GC Tryz.prog G1 48 (.p (.slice 4 (Q7 Q6.cells s)) :: []) [] (.slice 4 0 0 r.length) (.cells (Q0g Q6.cells r) :: []):=by
 cases s with
 | nil=>
  obtain rfl:=Qi h;refine Qar (e:=4) ?_ ?_
  ·refine Q49 k48 (Mb rfl) ?_;show Exists _;exact ⟨rho [0],(rS <| rN),(hV (Mb rfl) <| hN),rfl,rfl,(roE rfl <| roN)⟩
  refine Q49 k48 (Mb rfl) ?_;show Exists _;exact ⟨(fun i=>i),(rE rfl <| rN),(hE rfl <| hN),rfl,rfl,(roE rfl <| roN)⟩
 | cons x l=>
  obtain ⟨h1,h⟩:=Q48 h;obtain rfl:=Qi h;generalize hs:x::l=s at h1
  have hne:(!(Q7 Q6.cells s).isEmpty)=true:=by subst hs;rfl
  have hb:Nat.beq (Q7 Q6.cells s).length 0=false:=by subst hs;rfl
  clear hs;refine Q49 k48 (Mb rfl) ?_;refine Q0r hne ?_;refine Q0t (c:=Q6.cells) (vs:=s) rfl ?_;refine ifF hb ?_;refine Q0r (Zl (c:=Q6.cells) (e:=4) (l:=([]:List Q6)) (fun _=>rfl) rfl (by rw [Q3];exact h1)) ?_;show Exists _;exact ⟨rho [1],(rL (by simp [Q7]) rfl <| rN),(hO rfl <| hN),rfl,rfl,(roE (Qcv _ _ _) <| roN)⟩
def Qa6 (_N:Nat) (s:List Q09):Option (List Q09):=cond (Nat.beq s.length 0) (some []) (cond (Nat.ble ((0+s.length+4096) * 24) 17592186044416) (some s) none)
theorem Qjq {N} {s:List Q09} {r} (h:Qa6 N s=some r):GC Tryz.prog G1 49 (.p (.slice 2 (Q7 Q09.cells s)) :: []) [] (.slice 2 0 0 r.length) (.cells (Q0g Q09.cells r) :: []):=by
 cases s with
 | nil=>
  obtain rfl:=Qi h;refine Qar (e:=2) ?_ ?_
  ·refine Q49 k49 (Mb rfl) ?_;show Exists _;exact ⟨rho [0],(rS <| rN),(hV (Mb rfl) <| hN),rfl,rfl,(roE rfl <| roN)⟩
  refine Q49 k49 (Mb rfl) ?_;show Exists _;exact ⟨(fun i=>i),(rE rfl <| rN),(hE rfl <| hN),rfl,rfl,(roE rfl <| roN)⟩
 | cons x l=>
  obtain ⟨h1,h⟩:=Q48 h;obtain rfl:=Qi h;generalize hs:x::l=s at h1
  have hne:(!(Q7 Q09.cells s).isEmpty)=true:=by subst hs;rfl
  have hb:Nat.beq (Q7 Q09.cells s).length 0=false:=by subst hs;rfl
  clear hs;refine Q49 k49 (Mb rfl) ?_;refine Q0r hne ?_;refine Q0t (c:=Q09.cells) (vs:=s) rfl ?_;refine ifF hb ?_;refine Q0r (Zl (c:=Q09.cells) (e:=2) (l:=([]:List Q09)) (fun _=>rfl) rfl (by rw [Q3];exact h1)) ?_;show Exists _;exact ⟨rho [1],(rL (by simp [Q7]) rfl <| rN),(hO rfl <| hN),rfl,rfl,(roE (Qcv _ _ _) <| roN)⟩
def Qaj (_N:Nat) (s:List Int):Option (List Int):=cond (Nat.beq s.length 0) (some []) (cond (Nat.ble ((0+s.length+4096) * 8) 17592186044416) (some s) none)
theorem Qik {N} {s:List Int} {r} (h:Qaj N s=some r):GC Tryz.prog G1 67 (.p (.slice 1 (Q7 (cI .i64) s)) :: []) [] (.slice 1 0 0 r.length) (.cells (Q0g (cI .i64) r) :: []):=by
 cases s with
 | nil=>
  obtain rfl:=Qi h;refine Qar (e:=1) ?_ ?_
  ·refine Q49 k67 (Mb rfl) ?_;show Exists _;exact ⟨rho [0],(rS <| rN),(hV (Mb rfl) <| hN),rfl,rfl,(roE rfl <| roN)⟩
  refine Q49 k67 (Mb rfl) ?_;show Exists _;exact ⟨(fun i=>i),(rE rfl <| rN),(hE rfl <| hN),rfl,rfl,(roE rfl <| roN)⟩
 | cons x l=>
  obtain ⟨h1,h⟩:=Q48 h;obtain rfl:=Qi h;generalize hs:x::l=s at h1
  have hne:(!(Q7 (cI .i64) s).isEmpty)=true:=by subst hs;rfl
  have hb:Nat.beq (Q7 (cI .i64) s).length 0=false:=by subst hs;rfl
  clear hs;refine Q49 k67 (Mb rfl) ?_;refine Q0r hne ?_;refine Q0t (c:=(cI .i64)) (vs:=s) rfl ?_;refine ifF hb ?_;refine Q0r (Zl (c:=(cI .i64)) (e:=1) (l:=([]:List Int)) (fun _=>rfl) rfl (by rw [Q3];exact h1)) ?_;show Exists _;exact ⟨rho [1],(rL (by simp [Q7]) rfl <| rN),(hO rfl <| hN),rfl,rfl,(roE (Qcv _ _ _) <| roN)⟩
def Q6i (_N:Nat) (s:List Qa):Option (List Qa):=cond (Nat.beq s.length 0) (some []) (cond (Nat.ble ((0+s.length+4096) * 40) 17592186044416) (some s) none)
theorem Qeh {N} {s:List Qa} {r} (h:Q6i N s=some r):GC Tryz.prog G1 68 (.p (.slice 5 (Q7 Qa.cells s)) :: []) [] (.slice 5 0 0 r.length) (.cells (Q0g Qa.cells r) :: []):=by
 cases s with
 | nil=>
  obtain rfl:=Qi h;refine Qar (e:=5) ?_ ?_
  ·refine Q49 k68 (Mb rfl) ?_;show Exists _;exact ⟨rho [0],(rS <| rN),(hV (Mb rfl) <| hN),rfl,rfl,(roE rfl <| roN)⟩
  refine Q49 k68 (Mb rfl) ?_;show Exists _;exact ⟨(fun i=>i),(rE rfl <| rN),(hE rfl <| hN),rfl,rfl,(roE rfl <| roN)⟩
 | cons x l=>
  obtain ⟨h1,h⟩:=Q48 h;obtain rfl:=Qi h;generalize hs:x::l=s at h1
  have hne:(!(Q7 Qa.cells s).isEmpty)=true:=by subst hs;rfl
  have hb:Nat.beq (Q7 Qa.cells s).length 0=false:=by subst hs;rfl
  clear hs;refine Q49 k68 (Mb rfl) ?_;refine Q0r hne ?_;refine Q0t (c:=Qa.cells) (vs:=s) rfl ?_;refine ifF hb ?_;refine Q0r (Zl (c:=Qa.cells) (e:=5) (l:=([]:List Qa)) (fun _=>rfl) rfl (by rw [Q3];exact h1)) ?_;show Exists _;exact ⟨rho [1],(rL (by simp [Q7]) rfl <| rN),(hO rfl <| hN),rfl,rfl,(roE (Qcv _ _ _) <| roN)⟩
end
end Go.Av
