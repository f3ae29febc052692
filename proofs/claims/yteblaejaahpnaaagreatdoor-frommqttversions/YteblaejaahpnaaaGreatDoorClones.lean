/- Part of the proof of FrommqttVersions: for every input the law returns true; no condition. -/
import Derived.Test.YteblaejaahpnaaaGreatDoorClone
import Derived.Test.YteblaejaahpnaaaGreatDoorLiftTy
import Derived.Test.YteblaejaahpnaaaGreatDoorChks
import Derived.Test.YteblaejaahpnaaaGreatDoorSeat1
import Derived.KernelRfl
set_option linter.all false
namespace Go.Av
noncomputable section
open Go.Proofs
set_option maxRecDepth 100000
set_option maxHeartbeats 4000000
attribute [local irreducible] Vh Xf Qac Qfx Qo2 Qpd Qfp
def Q1j (_N:Nat) (s:List Qj):Option (List Qj):=cond (Nat.beq s.length 0) (some []) (cond (Nat.ble ((0+s.length+4096) * 48) 17592186044416) (some s) none)
theorem Q00 {N} {s:List Qj} {r} (h:Q1j N s=some r):GC Tryz.prog G1 53 (.p (.slice 4 (Qc Qj.cells s)) :: []) [] (.slice 4 0 0 r.length) (.cells (Uz Qj.cells r) :: []):=by
 cases s with
 | nil=>
  obtain rfl:=Qk h;refine Q38 (e:=4) ?_ ?_
  ·refine Uv k53 (Ls rfl) ?_;show Exists _;exact ⟨rho [0],(rS <| rN),(hV (Ls rfl) <| hN),rfl,rfl,(roE rfl <| roN)⟩
  refine Uv k53 (Ls rfl) ?_;show Exists _;exact ⟨(fun i=>i),(rE rfl <| rN),(hE rfl <| hN),rfl,rfl,(roE rfl <| roN)⟩
 | cons x l=>
  obtain ⟨h1,h⟩:=Qi2 h;obtain rfl:=Qk h;generalize hs:x::l=s at h1
  have hne:(!(Qc Qj.cells s).isEmpty)=true:=by subst hs;rfl
  have hb:Nat.beq (Qc Qj.cells s).length 0=false:=by subst hs;rfl
  clear hs;refine Uv k53 (Ls rfl) ?_;refine Qcv hne ?_;refine Qca (c:=Qj.cells) (vs:=s) rfl ?_;refine ifF hb ?_;refine Qcv (Q02 (c:=Qj.cells) (e:=4) (l:=([]:List Qj)) (fun _=>rfl) rfl (by rw [Qa];exact h1)) ?_;show Exists _;exact ⟨rho [1],(rL (by simp [Qc]) rfl <| rN),(hO rfl <| hN),rfl,rfl,(roE (Q4n _ _ _) <| roN)⟩
def Q99 (_N:Nat) (s:List Q3e):Option (List Q3e):=cond (Nat.beq s.length 0) (some []) (cond (Nat.ble ((0+s.length+4096) * 24) 17592186044416) (some s) none)
theorem Q8u {N} {s:List Q3e} {r} (h:Q99 N s=some r):GC Tryz.prog G1 54 (.p (.slice 2 (Qc Q3e.cells s)) :: []) [] (.slice 2 0 0 r.length) (.cells (Uz Q3e.cells r) :: []):=by
 cases s with
 | nil=>
  obtain rfl:=Qk h;refine Q38 (e:=2) ?_ ?_
  ·refine Uv k54 (Ls rfl) ?_;show Exists _;exact ⟨rho [0],(rS <| rN),(hV (Ls rfl) <| hN),rfl,rfl,(roE rfl <| roN)⟩
  refine Uv k54 (Ls rfl) ?_;show Exists _;exact ⟨(fun i=>i),(rE rfl <| rN),(hE rfl <| hN),rfl,rfl,(roE rfl <| roN)⟩
 | cons x l=>
  obtain ⟨h1,h⟩:=Qi2 h;obtain rfl:=Qk h;generalize hs:x::l=s at h1
  have hne:(!(Qc Q3e.cells s).isEmpty)=true:=by subst hs;rfl
  have hb:Nat.beq (Qc Q3e.cells s).length 0=false:=by subst hs;rfl
  clear hs;refine Uv k54 (Ls rfl) ?_;refine Qcv hne ?_;refine Qca (c:=Q3e.cells) (vs:=s) rfl ?_;refine ifF hb ?_;refine Qcv (Q02 (c:=Q3e.cells) (e:=2) (l:=([]:List Q3e)) (fun _=>rfl) rfl (by rw [Qa];exact h1)) ?_;show Exists _;exact ⟨rho [1],(rL (by simp [Qc]) rfl <| rN),(hO rfl <| hN),rfl,rfl,(roE (Q4n _ _ _) <| roN)⟩
def Q9l (_N:Nat) (s:List Int):Option (List Int):=cond (Nat.beq s.length 0) (some []) (cond (Nat.ble ((0+s.length+4096) * 8) 17592186044416) (some s) none)
theorem Qad {N} {s:List Int} {r} (h:Q9l N s=some r):GC Tryz.prog G1 93 (.p (.slice 1 (Qc (cI .i64) s)) :: []) [] (.slice 1 0 0 r.length) (.cells (Uz (cI .i64) r) :: []):=by
 cases s with
 | nil=>
  obtain rfl:=Qk h;refine Q38 (e:=1) ?_ ?_
  ·refine Uv k93 (Ls rfl) ?_;show Exists _;exact ⟨rho [0],(rS <| rN),(hV (Ls rfl) <| hN),rfl,rfl,(roE rfl <| roN)⟩
  refine Uv k93 (Ls rfl) ?_;show Exists _;exact ⟨(fun i=>i),(rE rfl <| rN),(hE rfl <| hN),rfl,rfl,(roE rfl <| roN)⟩
 | cons x l=>
  obtain ⟨h1,h⟩:=Qi2 h;obtain rfl:=Qk h;generalize hs:x::l=s at h1
  have hne:(!(Qc (cI .i64) s).isEmpty)=true:=by subst hs;rfl
  have hb:Nat.beq (Qc (cI .i64) s).length 0=false:=by subst hs;rfl
  clear hs;refine Uv k93 (Ls rfl) ?_;refine Qcv hne ?_;refine Qca (c:=(cI .i64)) (vs:=s) rfl ?_;refine ifF hb ?_;refine Qcv (Q02 (c:=(cI .i64)) (e:=1) (l:=([]:List Int)) (fun _=>rfl) rfl (by rw [Qa];exact h1)) ?_;show Exists _;exact ⟨rho [1],(rL (by simp [Qc]) rfl <| rN),(hO rfl <| hN),rfl,rfl,(roE (Q4n _ _ _) <| roN)⟩
def Q4w (_N:Nat) (s:List Qn):Option (List Qn):=cond (Nat.beq s.length 0) (some []) (cond (Nat.ble ((0+s.length+4096) * 40) 17592186044416) (some s) none)
theorem Q5q {N} {s:List Qn} {r} (h:Q4w N s=some r):GC Tryz.prog G1 94 (.p (.slice 5 (Qc Qn.cells s)) :: []) [] (.slice 5 0 0 r.length) (.cells (Uz Qn.cells r) :: []):=by
 cases s with
 | nil=>
  obtain rfl:=Qk h;refine Q38 (e:=5) ?_ ?_
  ·refine Uv k94 (Ls rfl) ?_;show Exists _;exact ⟨rho [0],(rS <| rN),(hV (Ls rfl) <| hN),rfl,rfl,(roE rfl <| roN)⟩
  refine Uv k94 (Ls rfl) ?_;show Exists _;exact ⟨(fun i=>i),(rE rfl <| rN),(hE rfl <| hN),rfl,rfl,(roE rfl <| roN)⟩
 | cons x l=>
  obtain ⟨h1,h⟩:=Qi2 h;obtain rfl:=Qk h;generalize hs:x::l=s at h1
  have hne:(!(Qc Qn.cells s).isEmpty)=true:=by subst hs;rfl
  have hb:Nat.beq (Qc Qn.cells s).length 0=false:=by subst hs;rfl
  clear hs;refine Uv k94 (Ls rfl) ?_;refine Qcv hne ?_;refine Qca (c:=Qn.cells) (vs:=s) rfl ?_;refine ifF hb ?_;refine Qcv (Q02 (c:=Qn.cells) (e:=5) (l:=([]:List Qn)) (fun _=>rfl) rfl (by rw [Qa];exact h1)) ?_;show Exists _;exact ⟨rho [1],(rL (by simp [Qc]) rfl <| rN),(hO rfl <| hN),rfl,rfl,(roE (Q4n _ _ _) <| roN)⟩
end
end Go.Av
