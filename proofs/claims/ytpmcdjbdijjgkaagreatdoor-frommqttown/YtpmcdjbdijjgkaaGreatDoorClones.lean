/- Part of the proof of FrommqttOwn: for every input the law returns true; no condition. -/
import Derived.Test.YtpmcdjbdijjgkaaGreatDoorClone
import Derived.Test.YtpmcdjbdijjgkaaGreatDoorLiftTy
import Derived.Test.YtpmcdjbdijjgkaaGreatDoorChks
import Derived.Test.YtpmcdjbdijjgkaaGreatDoorSeat1
import Derived.KernelRfl
namespace Go.Av
noncomputable section
open Go.Proofs
set_option maxRecDepth 100000
set_option maxHeartbeats 4000000
attribute [local irreducible] Wc Yz Q80 Qcj Qmw Qmb Qda
def J0 (_N : Nat) (s : List Q1) : Option (List Q1) := cond (Nat.beq s.length 0) (some []) (cond (Nat.ble ((0 + s.length + 4096) * 48) 17592186044416) (some s) none)
theorem Gj {N} {s : List Q1} {r} (h : J0 N s = some r) : GC Tryz.prog G1 23 (.p (.slice 4 (Q6 Q1.cells s)) :: []) [] (.slice 4 0 0 r.length) (.cells (Y4 Q1.cells r) :: []) := by
 cases s with
 | nil =>
  obtain rfl := Qo h;refine Q1r (e := 4) ?_ ?_
  ·refine Ww k23 (Lp rfl) ?_;show Exists _;exact ⟨rho [0], (rS <| rN), (hV (Lp rfl) <| hN), rfl, rfl, (roE rfl <| roN)⟩
  refine Ww k23 (Lp rfl) ?_;show Exists _;exact ⟨(fun i => i), (rE rfl <| rN), (hE rfl <| hN), rfl, rfl, (roE rfl <| roN)⟩
 | cons x l =>
  obtain ⟨h1, h⟩ := Q12 h;obtain rfl := Qo h;generalize hs : x :: l = s at h1
  have hne : (!(Q6 Q1.cells s).isEmpty) = true := by subst hs; rfl
  have hb : Nat.beq (Q6 Q1.cells s).length 0 = false := by subst hs; rfl
  clear hs;refine Ww k23 (Lp rfl) ?_;refine Wt hne ?_;refine Wx (c := Q1.cells) (vs := s) rfl ?_;refine ifF hb ?_;refine Wt (Zn (c := Q1.cells) (e := 4) (l := ([] : List Q1)) (fun _ => rfl) rfl (by rw [Qa]; exact h1)) ?_;show Exists _;exact ⟨rho [1], (rL (by simp [Q6]) rfl <| rN), (hO rfl <| hN), rfl, rfl, (roE (Qd _ _ _) <| roN)⟩
def Q26 (_N : Nat) (s : List Q1g) : Option (List Q1g) := cond (Nat.beq s.length 0) (some []) (cond (Nat.ble ((0 + s.length + 4096) * 24) 17592186044416) (some s) none)
theorem Q7w {N} {s : List Q1g} {r} (h : Q26 N s = some r) : GC Tryz.prog G1 24 (.p (.slice 2 (Q6 Q1g.cells s)) :: []) [] (.slice 2 0 0 r.length) (.cells (Y4 Q1g.cells r) :: []) := by
 cases s with
 | nil =>
  obtain rfl := Qo h;refine Q1r (e := 2) ?_ ?_
  ·refine Ww k24 (Lp rfl) ?_;show Exists _;exact ⟨rho [0], (rS <| rN), (hV (Lp rfl) <| hN), rfl, rfl, (roE rfl <| roN)⟩
  refine Ww k24 (Lp rfl) ?_;show Exists _;exact ⟨(fun i => i), (rE rfl <| rN), (hE rfl <| hN), rfl, rfl, (roE rfl <| roN)⟩
 | cons x l =>
  obtain ⟨h1, h⟩ := Q12 h;obtain rfl := Qo h;generalize hs : x :: l = s at h1
  have hne : (!(Q6 Q1g.cells s).isEmpty) = true := by subst hs; rfl
  have hb : Nat.beq (Q6 Q1g.cells s).length 0 = false := by subst hs; rfl
  clear hs;refine Ww k24 (Lp rfl) ?_;refine Wt hne ?_;refine Wx (c := Q1g.cells) (vs := s) rfl ?_;refine ifF hb ?_;refine Wt (Zn (c := Q1g.cells) (e := 2) (l := ([] : List Q1g)) (fun _ => rfl) rfl (by rw [Qa]; exact h1)) ?_;show Exists _;exact ⟨rho [1], (rL (by simp [Q6]) rfl <| rN), (hO rfl <| hN), rfl, rfl, (roE (Qd _ _ _) <| roN)⟩
def Q25 (_N : Nat) (s : List Int) : Option (List Int) := cond (Nat.beq s.length 0) (some []) (cond (Nat.ble ((0 + s.length + 4096) * 8) 17592186044416) (some s) none)
theorem Q92 {N} {s : List Int} {r} (h : Q25 N s = some r) : GC Tryz.prog G1 29 (.p (.slice 1 (Q6 (cI .i64) s)) :: []) [] (.slice 1 0 0 r.length) (.cells (Y4 (cI .i64) r) :: []) := by
 cases s with
 | nil =>
  obtain rfl := Qo h;refine Q1r (e := 1) ?_ ?_
  ·refine Ww k29 (Lp rfl) ?_;show Exists _;exact ⟨rho [0], (rS <| rN), (hV (Lp rfl) <| hN), rfl, rfl, (roE rfl <| roN)⟩
  refine Ww k29 (Lp rfl) ?_;show Exists _;exact ⟨(fun i => i), (rE rfl <| rN), (hE rfl <| hN), rfl, rfl, (roE rfl <| roN)⟩
 | cons x l =>
  obtain ⟨h1, h⟩ := Q12 h;obtain rfl := Qo h;generalize hs : x :: l = s at h1
  have hne : (!(Q6 (cI .i64) s).isEmpty) = true := by subst hs; rfl
  have hb : Nat.beq (Q6 (cI .i64) s).length 0 = false := by subst hs; rfl
  clear hs;refine Ww k29 (Lp rfl) ?_;refine Wt hne ?_;refine Wx (c := (cI .i64)) (vs := s) rfl ?_;refine ifF hb ?_;refine Wt (Zn (c := (cI .i64)) (e := 1) (l := ([] : List Int)) (fun _ => rfl) rfl (by rw [Qa]; exact h1)) ?_;show Exists _;exact ⟨rho [1], (rL (by simp [Q6]) rfl <| rN), (hO rfl <| hN), rfl, rfl, (roE (Qd _ _ _) <| roN)⟩
def Jz (_N : Nat) (s : List Q2) : Option (List Q2) := cond (Nat.beq s.length 0) (some []) (cond (Nat.ble ((0 + s.length + 4096) * 40) 17592186044416) (some s) none)
theorem Q4k {N} {s : List Q2} {r} (h : Jz N s = some r) : GC Tryz.prog G1 30 (.p (.slice 5 (Q6 Q2.cells s)) :: []) [] (.slice 5 0 0 r.length) (.cells (Y4 Q2.cells r) :: []) := by
 cases s with
 | nil =>
  obtain rfl := Qo h;refine Q1r (e := 5) ?_ ?_
  ·refine Ww k30 (Lp rfl) ?_;show Exists _;exact ⟨rho [0], (rS <| rN), (hV (Lp rfl) <| hN), rfl, rfl, (roE rfl <| roN)⟩
  refine Ww k30 (Lp rfl) ?_;show Exists _;exact ⟨(fun i => i), (rE rfl <| rN), (hE rfl <| hN), rfl, rfl, (roE rfl <| roN)⟩
 | cons x l =>
  obtain ⟨h1, h⟩ := Q12 h;obtain rfl := Qo h;generalize hs : x :: l = s at h1
  have hne : (!(Q6 Q2.cells s).isEmpty) = true := by subst hs; rfl
  have hb : Nat.beq (Q6 Q2.cells s).length 0 = false := by subst hs; rfl
  clear hs;refine Ww k30 (Lp rfl) ?_;refine Wt hne ?_;refine Wx (c := Q2.cells) (vs := s) rfl ?_;refine ifF hb ?_;refine Wt (Zn (c := Q2.cells) (e := 5) (l := ([] : List Q2)) (fun _ => rfl) rfl (by rw [Qa]; exact h1)) ?_;show Exists _;exact ⟨rho [1], (rL (by simp [Q6]) rfl <| rN), (hO rfl <| hN), rfl, rfl, (roE (Qd _ _ _) <| roN)⟩
end
end Go.Av
