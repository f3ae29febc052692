/- Part of the proof of EventOwn: for every input the law returns true; no condition. -/
import Derived.Test.YtnbdhlnkhdhohaaGreatDoorShelfJ
import Derived.Test.YtnbdhlnkhdhohaaGreatDoorLiftTy
import Derived.Test.YtnbdhlnkhdhohaaGreatDoorChks
import Derived.Test.YtnbdhlnkhdhohaaGreatDoorSeat1
import Derived.KernelRfl
namespace Go.Av
noncomputable section
open Go.Proofs
set_option maxRecDepth 100000
set_option maxHeartbeats 4000000
attribute [local irreducible] Vp Xe Q79 Qc9 Qpg Qpp Qgl
def Q04 (_N : Nat) (s : List Ql) : Option (List Ql) := cond (Nat.beq s.length 0) (some []) (cond (Nat.ble ((0 + s.length + 4096) * 48) 17592186044416) (some s) none)
theorem Q4g {N} {s : List Ql} {r} (h : Q04 N s = some r) : GC Tryz.prog G1 14 (.p (.slice 4 (Q8 Ql.cells s)) :: []) [] (.slice 4 0 0 r.length) (.cells (Zz Ql.cells r) :: []) := by
 cases s with
 | nil =>
  obtain rfl := Qb h;refine Q7n (e := 4) ?_ ?_
  ·refine X5 k14 (Lm rfl) ?_;show Exists _;exact ⟨rho [0], (rS <| rN), (hV (Lm rfl) <| hN), rfl, rfl, (roE rfl <| roN)⟩
  refine X5 k14 (Lm rfl) ?_;show Exists _;exact ⟨(fun i => i), (rE rfl <| rN), (hE rfl <| hN), rfl, rfl, (roE rfl <| roN)⟩
 | cons x l =>
  obtain ⟨h1, h⟩ := Q4v h;obtain rfl := Qb h;generalize hs : x :: l = s at h1
  have hne : (!(Q8 Ql.cells s).isEmpty) = true := by subst hs; rfl
  have hb : Nat.beq (Q8 Ql.cells s).length 0 = false := by subst hs; rfl
  clear hs;refine X5 k14 (Lm rfl) ?_;refine Q0k hne ?_;refine Qiy (c := Ql.cells) (vs := s) rfl ?_;refine ifF hb ?_;refine Q0k (Xk (c := Ql.cells) (e := 4) (l := ([] : List Ql)) (fun _ => rfl) rfl (by rw [Q5]; exact h1)) ?_;show Exists _;exact ⟨rho [1], (rL (by simp [Q8]) rfl <| rN), (hO rfl <| hN), rfl, rfl, (roE (Wx _ _ _) <| roN)⟩
def Q50 (_N : Nat) (s : List Q0t) : Option (List Q0t) := cond (Nat.beq s.length 0) (some []) (cond (Nat.ble ((0 + s.length + 4096) * 24) 17592186044416) (some s) none)
theorem Qfi {N} {s : List Q0t} {r} (h : Q50 N s = some r) : GC Tryz.prog G1 15 (.p (.slice 2 (Q8 Q0t.cells s)) :: []) [] (.slice 2 0 0 r.length) (.cells (Zz Q0t.cells r) :: []) := by
 cases s with
 | nil =>
  obtain rfl := Qb h;refine Q7n (e := 2) ?_ ?_
  ·refine X5 k15 (Lm rfl) ?_;show Exists _;exact ⟨rho [0], (rS <| rN), (hV (Lm rfl) <| hN), rfl, rfl, (roE rfl <| roN)⟩
  refine X5 k15 (Lm rfl) ?_;show Exists _;exact ⟨(fun i => i), (rE rfl <| rN), (hE rfl <| hN), rfl, rfl, (roE rfl <| roN)⟩
 | cons x l =>
  obtain ⟨h1, h⟩ := Q4v h;obtain rfl := Qb h;generalize hs : x :: l = s at h1
  have hne : (!(Q8 Q0t.cells s).isEmpty) = true := by subst hs; rfl
  have hb : Nat.beq (Q8 Q0t.cells s).length 0 = false := by subst hs; rfl
  clear hs;refine X5 k15 (Lm rfl) ?_;refine Q0k hne ?_;refine Qiy (c := Q0t.cells) (vs := s) rfl ?_;refine ifF hb ?_;refine Q0k (Xk (c := Q0t.cells) (e := 2) (l := ([] : List Q0t)) (fun _ => rfl) rfl (by rw [Q5]; exact h1)) ?_;show Exists _;exact ⟨rho [1], (rL (by simp [Q8]) rfl <| rN), (hO rfl <| hN), rfl, rfl, (roE (Wx _ _ _) <| roN)⟩
def Q7p (_N : Nat) (s : List Int) : Option (List Int) := cond (Nat.beq s.length 0) (some []) (cond (Nat.ble ((0 + s.length + 4096) * 8) 17592186044416) (some s) none)
theorem Qfx {N} {s : List Int} {r} (h : Q7p N s = some r) : GC Tryz.prog G1 31 (.p (.slice 1 (Q8 (cI .i64) s)) :: []) [] (.slice 1 0 0 r.length) (.cells (Zz (cI .i64) r) :: []) := by
 cases s with
 | nil =>
  obtain rfl := Qb h;refine Q7n (e := 1) ?_ ?_
  ·refine X5 k31 (Lm rfl) ?_;show Exists _;exact ⟨rho [0], (rS <| rN), (hV (Lm rfl) <| hN), rfl, rfl, (roE rfl <| roN)⟩
  refine X5 k31 (Lm rfl) ?_;show Exists _;exact ⟨(fun i => i), (rE rfl <| rN), (hE rfl <| hN), rfl, rfl, (roE rfl <| roN)⟩
 | cons x l =>
  obtain ⟨h1, h⟩ := Q4v h;obtain rfl := Qb h;generalize hs : x :: l = s at h1
  have hne : (!(Q8 (cI .i64) s).isEmpty) = true := by subst hs; rfl
  have hb : Nat.beq (Q8 (cI .i64) s).length 0 = false := by subst hs; rfl
  clear hs;refine X5 k31 (Lm rfl) ?_;refine Q0k hne ?_;refine Qiy (c := (cI .i64)) (vs := s) rfl ?_;refine ifF hb ?_;refine Q0k (Xk (c := (cI .i64)) (e := 1) (l := ([] : List Int)) (fun _ => rfl) rfl (by rw [Q5]; exact h1)) ?_;show Exists _;exact ⟨rho [1], (rL (by simp [Q8]) rfl <| rN), (hO rfl <| hN), rfl, rfl, (roE (Wx _ _ _) <| roN)⟩
def Q3u (_N : Nat) (s : List Qn) : Option (List Qn) := cond (Nat.beq s.length 0) (some []) (cond (Nat.ble ((0 + s.length + 4096) * 40) 17592186044416) (some s) none)
theorem Qbf {N} {s : List Qn} {r} (h : Q3u N s = some r) : GC Tryz.prog G1 32 (.p (.slice 5 (Q8 Qn.cells s)) :: []) [] (.slice 5 0 0 r.length) (.cells (Zz Qn.cells r) :: []) := by
 cases s with
 | nil =>
  obtain rfl := Qb h;refine Q7n (e := 5) ?_ ?_
  ·refine X5 k32 (Lm rfl) ?_;show Exists _;exact ⟨rho [0], (rS <| rN), (hV (Lm rfl) <| hN), rfl, rfl, (roE rfl <| roN)⟩
  refine X5 k32 (Lm rfl) ?_;show Exists _;exact ⟨(fun i => i), (rE rfl <| rN), (hE rfl <| hN), rfl, rfl, (roE rfl <| roN)⟩
 | cons x l =>
  obtain ⟨h1, h⟩ := Q4v h;obtain rfl := Qb h;generalize hs : x :: l = s at h1
  have hne : (!(Q8 Qn.cells s).isEmpty) = true := by subst hs; rfl
  have hb : Nat.beq (Q8 Qn.cells s).length 0 = false := by subst hs; rfl
  clear hs;refine X5 k32 (Lm rfl) ?_;refine Q0k hne ?_;refine Qiy (c := Qn.cells) (vs := s) rfl ?_;refine ifF hb ?_;refine Q0k (Xk (c := Qn.cells) (e := 5) (l := ([] : List Qn)) (fun _ => rfl) rfl (by rw [Q5]; exact h1)) ?_;show Exists _;exact ⟨rho [1], (rL (by simp [Q8]) rfl <| rN), (hO rfl <| hN), rfl, rfl, (roE (Wx _ _ _) <| roN)⟩
end
end Go.Av
