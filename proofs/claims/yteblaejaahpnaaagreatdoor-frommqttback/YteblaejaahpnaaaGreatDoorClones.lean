/- Part of the proof of FrommqttBack: for every input the law returns true; no condition. -/
import Derived.Test.YteblaejaahpnaaaGreatDoorShelfJ
import Derived.Test.YteblaejaahpnaaaGreatDoorLiftTy
import Derived.Test.YteblaejaahpnaaaGreatDoorChks
import Derived.Test.YteblaejaahpnaaaGreatDoorSeat1
import Derived.KernelRfl
set_option linter.all false
namespace Go.Av
noncomputable section
open Go.Proofs
set_option maxRecDepth 100000
set_option maxHeartbeats 4000000
attribute [local irreducible] Gu U7 Qdf Qij Qut Qug Qi3
def Q44 (_N:Nat) (s:List Qb):Option (List Qb):=cond (Nat.beq s.length 0) (some []) (cond (Nat.ble ((0+s.length+4096) * 48) 17592186044416) (some s) none)
theorem Q6m {N} {s:List Qb} {r} (h:Q44 N s=some r):GC Tryz.prog G1 53 (.p (.slice 4 (Q6 Qb.cells s)) :: []) [] (.slice 4 0 0 r.length) (.cells (Q18 Qb.cells r) :: []):=by
 cases s with
 | nil=>
  obtain rfl:=Qm h;refine Q9s (e:=4) ?_ ?_
  ·refine Q3r k53 (Me rfl) ?_;show Exists _;exact ⟨rho [0],(rS <| rN),(hV (Me rfl) <| hN),rfl,rfl,(roE rfl <| roN)⟩
  refine Q3r k53 (Me rfl) ?_;show Exists _;exact ⟨(fun i=>i),(rE rfl <| rN),(hE rfl <| hN),rfl,rfl,(roE rfl <| roN)⟩
 | cons x l=>
  obtain ⟨h1,h⟩:=Q99 h;obtain rfl:=Qm h;generalize hs:x::l=s at h1
  have hne:(!(Q6 Qb.cells s).isEmpty)=true:=by subst hs;rfl
  have hb:Nat.beq (Q6 Qb.cells s).length 0=false:=by subst hs;rfl
  clear hs;refine Q3r k53 (Me rfl) ?_;refine Q37 hne ?_;refine Qm1 (c:=Qb.cells) (vs:=s) rfl ?_;refine ifF hb ?_;refine Q37 (Wy (c:=Qb.cells) (e:=4) (l:=([]:List Qb)) (fun _=>rfl) rfl (by rw [Q4];exact h1)) ?_;show Exists _;exact ⟨rho [1],(rL (by simp [Q6]) rfl <| rN),(hO rfl <| hN),rfl,rfl,(roE (Qcd _ _ _) <| roN)⟩
def Q9z (_N:Nat) (s:List Q3f):Option (List Q3f):=cond (Nat.beq s.length 0) (some []) (cond (Nat.ble ((0+s.length+4096) * 24) 17592186044416) (some s) none)
theorem Qip {N} {s:List Q3f} {r} (h:Q9z N s=some r):GC Tryz.prog G1 54 (.p (.slice 2 (Q6 Q3f.cells s)) :: []) [] (.slice 2 0 0 r.length) (.cells (Q18 Q3f.cells r) :: []):=by
 cases s with
 | nil=>
  obtain rfl:=Qm h;refine Q9s (e:=2) ?_ ?_
  ·refine Q3r k54 (Me rfl) ?_;show Exists _;exact ⟨rho [0],(rS <| rN),(hV (Me rfl) <| hN),rfl,rfl,(roE rfl <| roN)⟩
  refine Q3r k54 (Me rfl) ?_;show Exists _;exact ⟨(fun i=>i),(rE rfl <| rN),(hE rfl <| hN),rfl,rfl,(roE rfl <| roN)⟩
 | cons x l=>
  obtain ⟨h1,h⟩:=Q99 h;obtain rfl:=Qm h;generalize hs:x::l=s at h1
  have hne:(!(Q6 Q3f.cells s).isEmpty)=true:=by subst hs;rfl
  have hb:Nat.beq (Q6 Q3f.cells s).length 0=false:=by subst hs;rfl
  clear hs;refine Q3r k54 (Me rfl) ?_;refine Q37 hne ?_;refine Qm1 (c:=Q3f.cells) (vs:=s) rfl ?_;refine ifF hb ?_;refine Q37 (Wy (c:=Q3f.cells) (e:=2) (l:=([]:List Q3f)) (fun _=>rfl) rfl (by rw [Q4];exact h1)) ?_;show Exists _;exact ⟨rho [1],(rL (by simp [Q6]) rfl <| rN),(hO rfl <| hN),rfl,rfl,(roE (Qcd _ _ _) <| roN)⟩
def Qa5 (_N:Nat) (s:List Int):Option (List Int):=cond (Nat.beq s.length 0) (some []) (cond (Nat.ble ((0+s.length+4096) * 8) 17592186044416) (some s) none)
theorem Qj5 {N} {s:List Int} {r} (h:Qa5 N s=some r):GC Tryz.prog G1 93 (.p (.slice 1 (Q6 (cI .i64) s)) :: []) [] (.slice 1 0 0 r.length) (.cells (Q18 (cI .i64) r) :: []):=by
 cases s with
 | nil=>
  obtain rfl:=Qm h;refine Q9s (e:=1) ?_ ?_
  ·refine Q3r k93 (Me rfl) ?_;show Exists _;exact ⟨rho [0],(rS <| rN),(hV (Me rfl) <| hN),rfl,rfl,(roE rfl <| roN)⟩
  refine Q3r k93 (Me rfl) ?_;show Exists _;exact ⟨(fun i=>i),(rE rfl <| rN),(hE rfl <| hN),rfl,rfl,(roE rfl <| roN)⟩
 | cons x l=>
  obtain ⟨h1,h⟩:=Q99 h;obtain rfl:=Qm h;generalize hs:x::l=s at h1
  have hne:(!(Q6 (cI .i64) s).isEmpty)=true:=by subst hs;rfl
  have hb:Nat.beq (Q6 (cI .i64) s).length 0=false:=by subst hs;rfl
  clear hs;refine Q3r k93 (Me rfl) ?_;refine Q37 hne ?_;refine Qm1 (c:=(cI .i64)) (vs:=s) rfl ?_;refine ifF hb ?_;refine Q37 (Wy (c:=(cI .i64)) (e:=1) (l:=([]:List Int)) (fun _=>rfl) rfl (by rw [Q4];exact h1)) ?_;show Exists _;exact ⟨rho [1],(rL (by simp [Q6]) rfl <| rN),(hO rfl <| hN),rfl,rfl,(roE (Qcd _ _ _) <| roN)⟩
def Q62 (_N:Nat) (s:List Qg):Option (List Qg):=cond (Nat.beq s.length 0) (some []) (cond (Nat.ble ((0+s.length+4096) * 40) 17592186044416) (some s) none)
theorem Qep {N} {s:List Qg} {r} (h:Q62 N s=some r):GC Tryz.prog G1 94 (.p (.slice 5 (Q6 Qg.cells s)) :: []) [] (.slice 5 0 0 r.length) (.cells (Q18 Qg.cells r) :: []):=by
 cases s with
 | nil=>
  obtain rfl:=Qm h;refine Q9s (e:=5) ?_ ?_
  ·refine Q3r k94 (Me rfl) ?_;show Exists _;exact ⟨rho [0],(rS <| rN),(hV (Me rfl) <| hN),rfl,rfl,(roE rfl <| roN)⟩
  refine Q3r k94 (Me rfl) ?_;show Exists _;exact ⟨(fun i=>i),(rE rfl <| rN),(hE rfl <| hN),rfl,rfl,(roE rfl <| roN)⟩
 | cons x l=>
  obtain ⟨h1,h⟩:=Q99 h;obtain rfl:=Qm h;generalize hs:x::l=s at h1
  have hne:(!(Q6 Qg.cells s).isEmpty)=true:=by subst hs;rfl
  have hb:Nat.beq (Q6 Qg.cells s).length 0=false:=by subst hs;rfl
  clear hs;refine Q3r k94 (Me rfl) ?_;refine Q37 hne ?_;refine Qm1 (c:=Qg.cells) (vs:=s) rfl ?_;refine ifF hb ?_;refine Q37 (Wy (c:=Qg.cells) (e:=5) (l:=([]:List Qg)) (fun _=>rfl) rfl (by rw [Q4];exact h1)) ?_;show Exists _;exact ⟨rho [1],(rL (by simp [Q6]) rfl <| rN),(hO rfl <| hN),rfl,rfl,(roE (Qcd _ _ _) <| roN)⟩
end
end Go.Av
