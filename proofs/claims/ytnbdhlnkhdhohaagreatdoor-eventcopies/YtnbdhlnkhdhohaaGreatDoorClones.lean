/- Part of the proof of EventCopies: for every input the law returns true; no condition. -/
import Derived.Test.YtnbdhlnkhdhohaaGreatDoorLiftTy
import Derived.Test.YtnbdhlnkhdhohaaGreatDoorChks
import Derived.Test.YtnbdhlnkhdhohaaGreatDoorSeat1
import Derived.KernelRfl
import Derived.Test.YtnbdhlnkhdhohaaGreatDoorShelfJ
import Derived.Test.YtnbdhlnkhdhohaaGreatDoorRound
namespace Go.Av
noncomputable section
open Go.Proofs
set_option maxRecDepth 100000
set_option maxHeartbeats 4000000
attribute [local irreducible] Vn Xj Q89 Qcy Qry Qrt Qh8
def Q0h (_N : Nat) (s : List Qc) : Option (List Qc) := cond (Nat.beq s.length 0) (some []) (cond (Nat.ble ((0 + s.length + 4096) * 48) 17592186044416) (some s) none)
theorem Q4n {N} {s : List Qc} {r} (h : Q0h N s = some r) : GC Tryz.prog G1 14 (.p (.slice 4 (Q8 Qc.cells s)) :: []) [] (.slice 4 0 0 r.length) (.cells (Qu Qc.cells r) :: []) := by
 cases s with
 | nil =>
  obtain rfl := Qd h;refine Q7d (e := 4) ?_ ?_
  ·refine X2 k14 (Lo rfl) ?_;show Exists _;exact ⟨rho [0], (rS <| rN), (hV (Lo rfl) <| hN), rfl, rfl, (roE rfl <| roN)⟩
  refine X2 k14 (Lo rfl) ?_;show Exists _;exact ⟨(fun i => i), (rE rfl <| rN), (hE rfl <| hN), rfl, rfl, (roE rfl <| roN)⟩
 | cons x l =>
  obtain ⟨h1, h⟩ := Q4u h;obtain rfl := Qd h;generalize hs : x :: l = s at h1
  have hne : (!(Q8 Qc.cells s).isEmpty) = true := by subst hs; rfl
  have hb : Nat.beq (Q8 Qc.cells s).length 0 = false := by subst hs; rfl
  clear hs;refine X2 k14 (Lo rfl) ?_;refine Js hne ?_;refine Qjo (c := Qc.cells) (vs := s) rfl ?_;refine ifF hb ?_;refine Js (Xe (c := Qc.cells) (e := 4) (l := ([] : List Qc)) (fun _ => rfl) rfl (by rw [Q5]; exact h1)) ?_;show Exists _;exact ⟨rho [1], (rL (by simp [Q8]) rfl <| rN), (hO rfl <| hN), rfl, rfl, (roE (Wr _ _ _) <| roN)⟩
def Q5g (_N : Nat) (s : List Vi) : Option (List Vi) := cond (Nat.beq s.length 0) (some []) (cond (Nat.ble ((0 + s.length + 4096) * 24) 17592186044416) (some s) none)
theorem Qgd {N} {s : List Vi} {r} (h : Q5g N s = some r) : GC Tryz.prog G1 15 (.p (.slice 2 (Q8 Vi.cells s)) :: []) [] (.slice 2 0 0 r.length) (.cells (Qu Vi.cells r) :: []) := by
 cases s with
 | nil =>
  obtain rfl := Qd h;refine Q7d (e := 2) ?_ ?_
  ·refine X2 k15 (Lo rfl) ?_;show Exists _;exact ⟨rho [0], (rS <| rN), (hV (Lo rfl) <| hN), rfl, rfl, (roE rfl <| roN)⟩
  refine X2 k15 (Lo rfl) ?_;show Exists _;exact ⟨(fun i => i), (rE rfl <| rN), (hE rfl <| hN), rfl, rfl, (roE rfl <| roN)⟩
 | cons x l =>
  obtain ⟨h1, h⟩ := Q4u h;obtain rfl := Qd h;generalize hs : x :: l = s at h1
  have hne : (!(Q8 Vi.cells s).isEmpty) = true := by subst hs; rfl
  have hb : Nat.beq (Q8 Vi.cells s).length 0 = false := by subst hs; rfl
  clear hs;refine X2 k15 (Lo rfl) ?_;refine Js hne ?_;refine Qjo (c := Vi.cells) (vs := s) rfl ?_;refine ifF hb ?_;refine Js (Xe (c := Vi.cells) (e := 2) (l := ([] : List Vi)) (fun _ => rfl) rfl (by rw [Q5]; exact h1)) ?_;show Exists _;exact ⟨rho [1], (rL (by simp [Q8]) rfl <| rN), (hO rfl <| hN), rfl, rfl, (roE (Wr _ _ _) <| roN)⟩
def Q7g (_N : Nat) (s : List Int) : Option (List Int) := cond (Nat.beq s.length 0) (some []) (cond (Nat.ble ((0 + s.length + 4096) * 8) 17592186044416) (some s) none)
theorem Qf8 {N} {s : List Int} {r} (h : Q7g N s = some r) : GC Tryz.prog G1 31 (.p (.slice 1 (Q8 (cI .i64) s)) :: []) [] (.slice 1 0 0 r.length) (.cells (Qu (cI .i64) r) :: []) := by
 cases s with
 | nil =>
  obtain rfl := Qd h;refine Q7d (e := 1) ?_ ?_
  ·refine X2 k31 (Lo rfl) ?_;show Exists _;exact ⟨rho [0], (rS <| rN), (hV (Lo rfl) <| hN), rfl, rfl, (roE rfl <| roN)⟩
  refine X2 k31 (Lo rfl) ?_;show Exists _;exact ⟨(fun i => i), (rE rfl <| rN), (hE rfl <| hN), rfl, rfl, (roE rfl <| roN)⟩
 | cons x l =>
  obtain ⟨h1, h⟩ := Q4u h;obtain rfl := Qd h;generalize hs : x :: l = s at h1
  have hne : (!(Q8 (cI .i64) s).isEmpty) = true := by subst hs; rfl
  have hb : Nat.beq (Q8 (cI .i64) s).length 0 = false := by subst hs; rfl
  clear hs;refine X2 k31 (Lo rfl) ?_;refine Js hne ?_;refine Qjo (c := (cI .i64)) (vs := s) rfl ?_;refine ifF hb ?_;refine Js (Xe (c := (cI .i64)) (e := 1) (l := ([] : List Int)) (fun _ => rfl) rfl (by rw [Q5]; exact h1)) ?_;show Exists _;exact ⟨rho [1], (rL (by simp [Q8]) rfl <| rN), (hO rfl <| hN), rfl, rfl, (roE (Wr _ _ _) <| roN)⟩
def Q3y (_N : Nat) (s : List Qe) : Option (List Qe) := cond (Nat.beq s.length 0) (some []) (cond (Nat.ble ((0 + s.length + 4096) * 40) 17592186044416) (some s) none)
theorem Qax {N} {s : List Qe} {r} (h : Q3y N s = some r) : GC Tryz.prog G1 32 (.p (.slice 5 (Q8 Qe.cells s)) :: []) [] (.slice 5 0 0 r.length) (.cells (Qu Qe.cells r) :: []) := by
 cases s with
 | nil =>
  obtain rfl := Qd h;refine Q7d (e := 5) ?_ ?_
  ·refine X2 k32 (Lo rfl) ?_;show Exists _;exact ⟨rho [0], (rS <| rN), (hV (Lo rfl) <| hN), rfl, rfl, (roE rfl <| roN)⟩
  refine X2 k32 (Lo rfl) ?_;show Exists _;exact ⟨(fun i => i), (rE rfl <| rN), (hE rfl <| hN), rfl, rfl, (roE rfl <| roN)⟩
 | cons x l =>
  obtain ⟨h1, h⟩ := Q4u h;obtain rfl := Qd h;generalize hs : x :: l = s at h1
  have hne : (!(Q8 Qe.cells s).isEmpty) = true := by subst hs; rfl
  have hb : Nat.beq (Q8 Qe.cells s).length 0 = false := by subst hs; rfl
  clear hs;refine X2 k32 (Lo rfl) ?_;refine Js hne ?_;refine Qjo (c := Qe.cells) (vs := s) rfl ?_;refine ifF hb ?_;refine Js (Xe (c := Qe.cells) (e := 5) (l := ([] : List Qe)) (fun _ => rfl) rfl (by rw [Q5]; exact h1)) ?_;show Exists _;exact ⟨rho [1], (rL (by simp [Q8]) rfl <| rN), (hO rfl <| hN), rfl, rfl, (roE (Wr _ _ _) <| roN)⟩
end
end Go.Av
namespace Go.Av
noncomputable section
open Go.Proofs
set_option maxRecDepth 1000000
theorem Z1e {k : IntKind} {S : Nat → Prop} {w : World} {zs : List Int} {vs : List Value} (h : vs.length = (zs.map fun z => PV.int k z).length) (hv : ∀ (j : Nat) x, (zs.map fun z => PV.int k z)[j]? = some x → RelP S w x (vs.getD j Qx)) : vs = zs.map fun z => Value.int k z := by
 apply Cw
 ·simpa using h
 intro j h1 h2
 have h3 : j < zs.length := by simpa using h2
 have := hv j (.int k zs[j]) (by simp [h3]);rw [Lf, Ld h1] at this;simp only [Option.getD_some] at this;generalize vs[j] = v at this;cases this;simp
theorem Qv1 : ([.int .u64 1, .int .u64 10, .int .u64 100, .int .u64 1000, .int .u64 10000, .int .u64 100000, .int .u64 1000000, .int .u64 10000000, .int .u64 100000000, .int .u64 1000000000, .int .u64 10000000000, .int .u64 100000000000, .int .u64 1000000000000, .int .u64 10000000000000, .int .u64 100000000000000, .int .u64 1000000000000000, .int .u64 10000000000000000, .int .u64 100000000000000000, .int .u64 1000000000000000000, .int .u64 10000000000000000000] : List PV) = Go.Lib.pow10Tab.map fun z => PV.int .u64 z := by kernel_rfl
theorem Qu9 {n : Int} (h0 : -9223372036854775808 ≤ n) (h1 : n ≤ 9223372036854775807) : Gv Tryz.prog G1 26 [.int .i64 n] (.str (Go.Lib.itoa n)) := by
 refine ⟨by unfold Qx6; rw [Tryz.func26]; rfl, fun bad w cargs hb hs hr hG => ?_⟩;obtain ⟨L⟩ := cargs
 match L, hs, hr with
 | [x], _, hr =>
  have hx : RelP (fun c => ¬ bad c) w (.int .i64 n) x := hr 0 _ rfl;cases hx
  have htab : Go.Lib.TabIs Tryz.prog w "internal/strconv.uint64pow10" .u64 Go.Lib.pow10Tab := by
   obtain ⟨g1, g2, vs, ⟨g3, t, fz, g4⟩, g5, g6⟩ := hG 0 _ rfl;rw [Qv1] at g3 g6;have hv := Z1e g3 fun j x hx => (g6 j x hx).2
   have hg : Tryz.prog.globalNamed "internal/strconv.uint64pow10" = some 0 := by kernel_rfl
   unfold Go.Lib.TabIs World.var?;rw [hg, Li, g4, hv]
  refine (Tryz.strconv_Itoa n h0 h1 w htab).mono fun e w' h => ?_;obtain ⟨rfl, k, os, rfl⟩ := h;exact ⟨_, rfl, .str _, ⟨rfl, rfl, rfl, by simp [Go.Sort.grow, World.drewN], fun c hc => by simp only [Go.Sort.grow, World.drewN]; rw [Array.getElem?_append_left hc]⟩⟩
def Jn (_N : Nat) (n : Int) : Option (List UInt8) := cond (decide (-9223372036854775808 ≤ n) && decide (n ≤ 9223372036854775807)) (some (Go.Lib.itoa n)) none
theorem Q13 {N} {n} {r} (h : Jn N n = some r) : Gv Tryz.prog G1 26 [.int .i64 n] (.str r) := by
 unfold Jn at h;obtain ⟨h1, h⟩ := Q4u h;cases h;simp only [La, decide_eq_true_eq] at h1;exact Qu9 h1.1 h1.2
end
end Go.Av
