/- Part of the proof of FrommqttOwn: for every input the law returns true; no condition. -/
import Derived.Test.YtpmcdjbdijjgkaaGreatDoorLiftF0
open Go.IntKind (wrap)
namespace Go.Av
noncomputable section
open Go.Proofs
set_option maxRecDepth 100000
set_option maxHeartbeats 4000000
attribute [local irreducible] Wc Yz Q80 Qcj Qmw Qmb Qda
section
def Z9 (_N : Nat) (s_0 : List UInt8) : Option (Int × Int) :=
 cond (Q7 .lss (s_0.length : Int) 1)
 (some (65533, 0))
 ((idx s_0 0).bind fun b2 =>
 (idx gtab0 (b2.toNat : Int)).bind fun y4 =>
 cond (Q7 .geq y4 240)
 ((idx s_0 0).bind fun b7 =>
 some ((orI .i32 (Xf .i32 (wrap .i32 (b7.toNat : Int)) (Q3u .i32 (Q1l .i32 (wrap .i32 y4) 31) 31)) (Gm .i32 65533 (Q3u .i32 (Q1l .i32 (wrap .i32 y4) 31) 31))), 1))
 ((idx gtab1 (Q3u .u8 y4 4)).bind fun y9 =>
 cond (Q7 .lss (s_0.length : Int) (wrap .i64 (Gm .u8 y4 7)))
 (some (65533, 1))
 ((idx s_0 1).bind fun b12 =>
 cond (Q7 .lss (b12.toNat : Int) y9.1)
 (some (65533, 1))
 (cond (Q7 .lss y9.2 (b12.toNat : Int))
 (some (65533, 1))
 (cond (Q7 .leq (wrap .i64 (Gm .u8 y4 7)) 2)
 (some ((orI .i32 (Q1l .i32 (wrap .i32 (Gm .u8 (b2.toNat : Int) 31)) 6) (wrap .i32 (Gm .u8 (b12.toNat : Int) 63))), 2))
 ((idx s_0 2).bind fun b17 =>
 cond (Q7 .lss (b17.toNat : Int) 128)
 (some (65533, 1))
 (cond (Q7 .lss 191 (b17.toNat : Int))
 (some (65533, 1))
 (cond (Q7 .leq (wrap .i64 (Gm .u8 y4 7)) 3)
 (some ((orI .i32 (orI .i32 (Q1l .i32 (wrap .i32 (Gm .u8 (b2.toNat : Int) 15)) 12) (Q1l .i32 (wrap .i32 (Gm .u8 (b12.toNat : Int) 63)) 6)) (wrap .i32 (Gm .u8 (b17.toNat : Int) 63))), 3))
 ((idx s_0 3).bind fun b22 =>
 cond (Q7 .lss (b22.toNat : Int) 128)
 (some (65533, 1))
 (cond (Q7 .lss 191 (b22.toNat : Int))
 (some (65533, 1))
 (some ((orI .i32 (orI .i32 (orI .i32 (Q1l .i32 (wrap .i32 (Gm .u8 (b2.toNat : Int) 7)) 18) (Q1l .i32 (wrap .i32 (Gm .u8 (b12.toNat : Int) 63)) 12)) (Q1l .i32 (wrap .i32 (Gm .u8 (b17.toNat : Int) 63)) 6)) (wrap .i32 (Gm .u8 (b22.toNat : Int) 63))), 4))))))))))))
theorem X1 {N} {s_0} {r} (h : Z9 N s_0 = some r) : pU 216 [.str s_0] (.tuple [.int .i32 r.1, .int .i64 r.2]) := by
 refine Q0 Qv9 ?_;unfold Z9 at h;rw [cX] at h;refine iL2 h fun h => ?_;refine xB h fun b2 h => ?_;obtain ⟨y4, hy5, h⟩ := Wq h;refine Wt (Vl hy5 Qjm) ?_
 refine Qht (c := (cI .u8)) (e := 1) (fun _ => rfl) Qm2 hy5 (off := 0) (by decide) (by first | omega | (simp only [Gm, orI, Q7g, Xf, Q1l, Q3u]; omega)) ?_
 apply iU h <;> intro h
 ·refine xB h fun b7 h => ?_;obtain rfl := Qo h; exact u2
 obtain ⟨y9, hy10, h⟩ := Wq h;refine Wt (Vl hy10 Qit) ?_
 refine Qht (c := cUU) (e := 2) (fun _ => rfl) Qks hy10 (off := 0) (by decide) (by first | omega | (simp only [Gm, orI, Q7g, Xf, Q1l, Q3u]; omega)) ?_
 refine iL2 h fun h => ?_;refine xB h fun b12 h => ?_;refine iL2 h fun h => ?_;refine iL2 h fun h => ?_;refine iL2 h fun h => ?_;refine xB h fun b17 h => ?_;refine iL2 h fun h => ?_;refine iL2 h fun h => ?_;refine iL2 h fun h => ?_;refine xB h fun b22 h => ?_;refine iL2 h fun h => ?_;exact iB2 h
def Yf (N : Nat) (s_0 : List UInt8) : Option (Int × Int) :=
 cond (Gp .neq s_0 [])
 ((idx s_0 0).bind fun b2 =>
 cond (Q7 .lss (b2.toNat : Int) 128)
 ((idx s_0 0).bind fun b5 =>
 some ((wrap .i32 (b5.toNat : Int)), 1))
 ((Z9 N s_0).bind fun v7 =>
 some (v7.1, v7.2)))
 ((Z9 N s_0).bind fun v9 =>
 some (v9.1, v9.2))
theorem Ul {N} {s_0} {r} (h : Yf N s_0 = some r) : pU 212 [.str s_0] (.tuple [.int .i32 r.1, .int .i64 r.2]) := by
 refine Q0 Qqz ?_;unfold Yf at h;rw [cX, cY] at h;apply iU h <;> intro h
 ·refine xB h fun b2 h => ?_;apply iU h <;> intro h
  ·refine xB h fun b5 h => ?_;obtain rfl := Qo h; exact u2
  refine cP h X1 p1 fun v7 h => ?_;obtain rfl := Qo h; exact u2
 refine cP h X1 p1 fun v9 h => ?_;obtain rfl := Qo h; exact u2
def Xk (N : Nat) (n5 : Int) : Nat → (List UInt8) → Int → (List (List UInt8)) → Option (List (List UInt8))
 | 0, _, _, _ => none
 | n + 1, s28, i29, l30 =>
  cond (Q7 .lss i29 (wrap .i64 (n5 - 1)))
  ((Yf N s28).bind fun v32 =>
  cond (decide (0 ≤ v32.2)) (cond (Nat.ble 0 v32.2.toNat && Nat.ble v32.2.toNat s28.length) ((idx (l30 : List (List UInt8)) i29).bind fun y36 =>
  cond (Nat.ble v32.2.toNat s28.length && Nat.ble s28.length s28.length) (Xk N n5 n ((s28.take s28.length).drop v32.2.toNat) (wrap .i64 (i29 + 1)) ((l30 : List (List UInt8)).set (Int.toNat i29) ((s28.take v32.2.toNat).drop 0))) none) none) none)
  (cond (Q7 .gtr n5 0)
  ((idx (l30 : List (List UInt8)) (wrap .i64 (n5 - 1))).bind fun y40 =>
  some ((l30 : List (List UInt8)).set (Int.toNat (wrap .i64 (n5 - 1))) s28))
  (some l30))
def Xj (N : Nat) (s_0 : List UInt8) (n5 : Int) : Option (List (List UInt8)) :=
 cond (decide (0 ≤ n5) && decide (n5 ≤ n5) && decide (n5 * 16 ≤ 1099511627776)) (Xk N n5 N s_0 0 (List.replicate (n5 : Int).toNat ([] : (List UInt8)))) none
def Jw (N : Nat) (s_0 : List UInt8) (n_1 : Int) : Option (List (List UInt8)) :=
 (Yp N s_0).bind fun v1 =>
 cond (Q7 .lss n_1 0)
 (Xj N s_0 v1)
 (cond (Q7 .gtr n_1 v1)
 (Xj N s_0 v1)
 (Xj N s_0 n_1))
theorem Q3m {N} {s_0} {n_1} {r} (h : Jw N s_0 n_1 = some r) : pU 205 [.str s_0, .int .i64 n_1] (.slice 1 (Q6 cS r)) := by
 refine Q0 Qtm ?_;unfold Jw at h;rw [cX] at h;refine cP h Ux p1 fun v1 h => ?_;refine jrH (r := r) (σ := Int) (fun n5 => (iS s_0 :: iI n5 :: a16 (a16 (a16 ([]))) : List AV)) (fun n5 => Xj N s_0 n5) ?_ ?_
 ·apply iU h <;> intro h
  ·show Exists _;exact ⟨(v1), h, (fun i => i), Vf⟩
  apply iU h <;> intro h
  ·show Exists _;exact ⟨(v1), h, (fun i => i), Vf⟩
  show Exists _;exact ⟨(n_1), h, (fun i => i), Vf⟩
 rintro n5 h
 unfold Xj at h;refine kU h fun h => ?_;refine Qnz (c := cS) ([] : (List UInt8)) rfl ?_;refine lpC (τ := (List UInt8) × Int × (List (List UInt8))) (fun ⟨s28, i29, l30⟩ => (iS s28 :: iI n5 :: a4 (.slice 1 1 0 l30.length :: iI i29 :: a16 (a16 (a8 (a2 ([]))))) : List AV)) (fun ⟨_, _, l30⟩ => (.dead :: .cells (Y4 cS l30) :: [] : List AObj)) (fun n1 ⟨s28, i29, l30⟩ => Xk N n5 n1 s28 i29 l30) (s_0, 0, (List.replicate (n5 : Int).toNat ([] : (List UInt8)))) h (rho [0, 0]) Vf fun n1 ⟨s28, i29, l30⟩ h => ?_
 first | rw [Xk] at h | simp only [Xk] at h
 rw [cX] at h;apply iU h <;> intro h
 ·refine cP h Ul p1 fun v32 h => ?_;obtain ⟨hk34, h⟩ := Q12 h;refine Wt hk34 ?_;refine kU h fun h => ?_;obtain ⟨y36, hy37, h⟩ := Wq h;refine Wt (Vl hy37 sd) ?_;refine Wt (Wo (c := cS) (e := 1) (fun _ => rfl) hy37 (off := 0) (by omega) rfl (by decide)) ?_
  refine Wr (c := cS) (e := 1) (fun _ => rfl) hy37 ((s28.take v32.2.toNat).drop 0) (off := 0) (by first | omega | (simp only [Gm, orI, Q7g, Xf, Q1l, Q3u]; omega)) rfl (by simp) ?_
  refine Wt hk34 ?_;refine kU h fun h => ?_;show Exists _;exact ⟨(n1, ((s28.take s28.length).drop v32.2.toNat), (wrap .i64 (i29 + 1)), ((l30 : List (List UInt8)).set (Int.toNat i29) ((s28.take v32.2.toNat).drop 0))), h, Lg _, (fun i => i), Vf⟩
 apply iU h <;> intro h
 ·obtain ⟨y40, hy41, h⟩ := Wq h;refine Wt (Vl hy41 sd) ?_;refine Wt (Wo (c := cS) (e := 1) (fun _ => rfl) hy41 (off := 0) (by omega) rfl (by decide)) ?_
  refine Wr (c := cS) (e := 1) (fun _ => rfl) hy41 s28 (off := 0) (by first | omega | (simp only [Gm, orI, Q7g, Xf, Q1l, Q3u]; omega)) rfl (by simp) ?_
  obtain rfl := Qo h; exact (frz_own (c := cS) (l := (((l30 : List (List UInt8)).set (Int.toNat (wrap .i64 (n5 - 1))) s28) : List (List UInt8))) (fun _ => rfl) rfl trivial sd)
 obtain rfl := Qo h; exact (frz_own (c := cS) (l := (l30 : List (List UInt8))) (fun _ => rfl) rfl trivial sd)
def Y9 (N : Nat) (s_0 : List UInt8) : Nat → (List UInt8) → Int → (List (List UInt8)) → Option (List (List UInt8))
 | 0, _, _, _ => none
 | n + 1, s36, i37, l38 =>
  cond (Q7 .lss i37 (wrap .i64 ((ifB (decide ((wrap .i64 ((s_0.length : Int) + 1)) < (wrap .i64 ((Q5v s_0 (UInt8.ofNat (Int.toNat 47)) 0 : Int) + 1)))) (wrap .i64 ((s_0.length : Int) + 1)) (wrap .i64 ((Q5v s_0 (UInt8.ofNat (Int.toNat 47)) 0 : Int) + 1))) - 1)))
  (cond (Gp .eql [47] s36)
  ((idx (l38 : List (List UInt8)) i37).bind fun y41 =>
  cond (Nat.ble 1 s36.length && Nat.ble s36.length s36.length) (Y9 N s_0 n ((s36.take s36.length).drop 1) (wrap .i64 (i37 + 1)) ((l38 : List (List UInt8)).set (Int.toNat i37) ((s36.take 0).drop 0))) none)
  ((Qf N s36 47).bind fun v44 =>
  cond (Q7 .lss v44 0)
  ((idx (l38 : List (List UInt8)) i37).bind fun y47 =>
  cond (decide (0 ≤ (wrap .i64 (i37 + 1)))) (cond (Nat.ble 0 ((wrap .i64 (i37 + 1)).toNat) && Nat.ble ((wrap .i64 (i37 + 1)).toNat) l38.length) (some ((((l38 : List (List UInt8)).set (Int.toNat i37) s36) : List (List UInt8)).take ((wrap .i64 (i37 + 1)).toNat))) none) none)
  (cond (decide (0 ≤ (wrap .i64 (v44 + 0)))) (cond (Nat.ble 0 ((wrap .i64 (v44 + 0)).toNat) && Nat.ble ((wrap .i64 (v44 + 0)).toNat) s36.length) ((idx (l38 : List (List UInt8)) i37).bind fun y53 =>
  cond (decide (0 ≤ (wrap .i64 (v44 + 1)))) (cond (Nat.ble (wrap .i64 (v44 + 1)).toNat s36.length && Nat.ble s36.length s36.length) (Y9 N s_0 n ((s36.take s36.length).drop ((wrap .i64 (v44 + 1)).toNat)) (wrap .i64 (i37 + 1)) ((l38 : List (List UInt8)).set (Int.toNat i37) ((s36.take ((wrap .i64 (v44 + 0)).toNat)).drop 0))) none) none) none) none)))
  ((idx (l38 : List (List UInt8)) i37).bind fun y57 =>
  cond (decide (0 ≤ (wrap .i64 (i37 + 1)))) (cond (Nat.ble 0 ((wrap .i64 (i37 + 1)).toNat) && Nat.ble ((wrap .i64 (i37 + 1)).toNat) l38.length) (some ((((l38 : List (List UInt8)).set (Int.toNat i37) s36) : List (List UInt8)).take ((wrap .i64 (i37 + 1)).toNat))) none) none)
def Ue (N : Nat) (s_0 : List UInt8) : Option (List (List UInt8)) :=
 cond (Gp .eql [47] [])
 ((Jw N s_0 (-1)).bind fun v2 =>
 some v2)
 (cond (decide (0 ≤ (ifB (decide ((wrap .i64 ((s_0.length : Int) + 1)) < (wrap .i64 ((Q5v s_0 (UInt8.ofNat (Int.toNat 47)) 0 : Int) + 1)))) (wrap .i64 ((s_0.length : Int) + 1)) (wrap .i64 ((Q5v s_0 (UInt8.ofNat (Int.toNat 47)) 0 : Int) + 1)))) && decide ((ifB (decide ((wrap .i64 ((s_0.length : Int) + 1)) < (wrap .i64 ((Q5v s_0 (UInt8.ofNat (Int.toNat 47)) 0 : Int) + 1)))) (wrap .i64 ((s_0.length : Int) + 1)) (wrap .i64 ((Q5v s_0 (UInt8.ofNat (Int.toNat 47)) 0 : Int) + 1))) ≤ (ifB (decide ((wrap .i64 ((s_0.length : Int) + 1)) < (wrap .i64 ((Q5v s_0 (UInt8.ofNat (Int.toNat 47)) 0 : Int) + 1)))) (wrap .i64 ((s_0.length : Int) + 1)) (wrap .i64 ((Q5v s_0 (UInt8.ofNat (Int.toNat 47)) 0 : Int) + 1)))) && decide ((ifB (decide ((wrap .i64 ((s_0.length : Int) + 1)) < (wrap .i64 ((Q5v s_0 (UInt8.ofNat (Int.toNat 47)) 0 : Int) + 1)))) (wrap .i64 ((s_0.length : Int) + 1)) (wrap .i64 ((Q5v s_0 (UInt8.ofNat (Int.toNat 47)) 0 : Int) + 1))) * 16 ≤ 1099511627776)) (Y9 N s_0 N s_0 0 (List.replicate ((ifB (decide ((wrap .i64 ((s_0.length : Int) + 1)) < (wrap .i64 ((Q5v s_0 (UInt8.ofNat (Int.toNat 47)) 0 : Int) + 1)))) (wrap .i64 ((s_0.length : Int) + 1)) (wrap .i64 ((Q5v s_0 (UInt8.ofNat (Int.toNat 47)) 0 : Int) + 1))) : Int).toNat ([] : (List UInt8)))) none)
theorem Q6a {N} {s_0} {r} (h : Ue N s_0 = some r) : pU 155 [.str s_0] (.slice 1 (Q6 cS r)) := by
 refine Q0 Qwf ?_;unfold Ue at h;rw [cY] at h;refine Xr Qr5 ?_;refine Xr Qvk ?_;refine dF ?_;apply iU h <;> intro h
 ·refine cP h Q3m p2 fun v2 h => ?_;cases h; exact (.p _)
 refine dT ?_;refine Xr Qvr ?_;refine dF ?_;refine dT ?_;refine kU h fun h => ?_;refine Qnz (c := cS) ([] : (List UInt8)) rfl ?_;refine lpC (τ := (List UInt8) × Int × (List (List UInt8))) (fun ⟨s36, i37, l38⟩ => (iS s36 :: iS [47] :: iI 0 :: .p (.int .i64 (wrap .i64 ((ifB (decide ((wrap .i64 ((s_0.length : Int) + 1)) < (wrap .i64 ((Q5v s_0 (UInt8.ofNat (Int.toNat 47)) 0 : Int) + 1)))) (wrap .i64 ((s_0.length : Int) + 1)) (wrap .i64 ((Q5v s_0 (UInt8.ofNat (Int.toNat 47)) 0 : Int) + 1))) - 1))) :: a4 (.any :: .slice 1 1 0 l38.length :: iI i37 :: a16 (a16 (a16 (a4 (a2 (.any :: [])))))) : List AV)) (fun ⟨_, _, l38⟩ => (.dead :: .cells (Y4 cS l38) :: [] : List AObj)) (fun n0 ⟨s36, i37, l38⟩ => Y9 N s_0 n0 s36 i37 l38) (s_0, 0, (List.replicate ((ifB (decide ((wrap .i64 ((s_0.length : Int) + 1)) < (wrap .i64 ((Q5v s_0 (UInt8.ofNat (Int.toNat 47)) 0 : Int) + 1)))) (wrap .i64 ((s_0.length : Int) + 1)) (wrap .i64 ((Q5v s_0 (UInt8.ofNat (Int.toNat 47)) 0 : Int) + 1))) : Int).toNat ([] : (List UInt8)))) h (rho [0, 0]) Vf fun n0 ⟨s36, i37, l38⟩ h => ?_
 first | rw [Y9] at h | simp only [Y9] at h
 rw [cX, cY] at h;apply iU h <;> intro h
 ·refine Xr Qvo ?_;refine Xr Qqu ?_;refine dF ?_;apply iU h <;> intro h
  ·refine dF ?_;obtain ⟨y41, hy42, h⟩ := Wq h;refine Wt (Vl hy42 sd) ?_;refine Wt (Wo (c := cS) (e := 1) (fun _ => rfl) hy42 (off := 0) (by omega) rfl (by decide)) ?_
   refine Wr (c := cS) (e := 1) (fun _ => rfl) hy42 ((s36.take 0).drop 0) (off := 0) (by first | omega | (simp only [Gm, orI, Q7g, Xf, Q1l, Q3u]; omega)) rfl (by simp) ?_
   refine kU h fun h => ?_;show Exists _;exact ⟨(n0, ((s36.take s36.length).drop 1), (wrap .i64 (i37 + 1)), ((l38 : List (List UInt8)).set (Int.toNat i37) ((s36.take 0).drop 0))), h, Lg _, (fun i => i), Vf⟩
  refine dT ?_;refine cP h Y6 p2 fun v44 h => ?_;apply iU h <;> intro h
  ·obtain ⟨y47, hy48, h⟩ := Wq h;refine Wt (Vl hy48 sd) ?_;refine Wt (Wo (c := cS) (e := 1) (fun _ => rfl) hy48 (off := 0) (by omega) rfl (by decide)) ?_
   refine Wr (c := cS) (e := 1) (fun _ => rfl) hy48 s36 (off := 0) (by first | omega | (simp only [Gm, orI, Q7g, Xf, Q1l, Q3u]; omega)) rfl (by simp) ?_
   refine kU h fun h => ?_;obtain ⟨hk50, h⟩ := Q12 h;refine Wt hk50 ?_;obtain rfl := Qo h; exact (Qf0 (c := cS) (l := (((l38 : List (List UInt8)).set (Int.toNat i37) s36) : List (List UInt8))) (fun _ => rfl) rfl trivial (by have e : l38.length = (((l38 : List (List UInt8)).set (Int.toNat i37) s36) : List (List UInt8)).length := sd; simp only [La, Lr] at hk50; omega))
  refine kU h fun h => ?_;refine kU h fun h => ?_;obtain ⟨y53, hy54, h⟩ := Wq h;refine Wt (Vl hy54 sd) ?_;refine Wt (Wo (c := cS) (e := 1) (fun _ => rfl) hy54 (off := 0) (by omega) rfl (by decide)) ?_
  refine Wr (c := cS) (e := 1) (fun _ => rfl) hy54 ((s36.take ((wrap .i64 (v44 + 0)).toNat)).drop 0) (off := 0) (by first | omega | (simp only [Gm, orI, Q7g, Xf, Q1l, Q3u]; omega)) rfl (by simp) ?_
  refine kU h fun h => ?_;refine kU h fun h => ?_;show Exists _;exact ⟨(n0, ((s36.take s36.length).drop ((wrap .i64 (v44 + 1)).toNat)), (wrap .i64 (i37 + 1)), ((l38 : List (List UInt8)).set (Int.toNat i37) ((s36.take ((wrap .i64 (v44 + 0)).toNat)).drop 0))), h, Lg _, (fun i => i), Vf⟩
 obtain ⟨y57, hy58, h⟩ := Wq h;refine Wt (Vl hy58 sd) ?_;refine Wt (Wo (c := cS) (e := 1) (fun _ => rfl) hy58 (off := 0) (by omega) rfl (by decide)) ?_
 refine Wr (c := cS) (e := 1) (fun _ => rfl) hy58 s36 (off := 0) (by first | omega | (simp only [Gm, orI, Q7g, Xf, Q1l, Q3u]; omega)) rfl (by simp) ?_
 refine kU h fun h => ?_;obtain ⟨hk60, h⟩ := Q12 h;refine Wt hk60 ?_;obtain rfl := Qo h; exact (Qf0 (c := cS) (l := (((l38 : List (List UInt8)).set (Int.toNat i37) s36) : List (List UInt8))) (fun _ => rfl) rfl trivial (by have e : l38.length = (((l38 : List (List UInt8)).set (Int.toNat i37) s36) : List (List UInt8)).length := sd; simp only [La, Lr] at hk60; omega))
def Xo (N : Nat) (s_0 : List UInt8) : Option Bool :=
 (G8 N s_0).bind fun v1 =>
 cond v1
 ((Ue N s_0).bind fun v4 =>
 (Uh N v4).bind fun v6 =>
 some v6)
 (some false)
theorem Jv {N} {s_0} {r} (h : Xo N s_0 = some r) : pU 110 [.str s_0] (.bool r) := by
 refine Q0 Qub ?_;unfold Xo at h;refine cP h Q2z p1 fun v1 h => ?_;refine iR h fun h => ?_;refine cP h Q6a p1 fun v4 h => ?_;refine cP h Q5y p1 fun v6 h => ?_;cases h; exact (.p _)
def Yu (_N : Nat) (n_0 : Int) : Option Bool :=
 cond (Q7 .geq n_0 0)
 (some (Q7 .lss n_0 3))
 (some false)
theorem Uc {N} {n_0} {r} (h : Yu N n_0 = some r) : pU 156 [.int .i64 n_0] (.bool r) := by
 refine Q0 Qss ?_;unfold Yu at h;rw [cX] at h;exact iB h
def Zr (_N : Nat) (s_0 : List UInt8) (prefix_1 : List UInt8) : Option Bool :=
 cond (Q7 .geq (s_0.length : Int) (prefix_1.length : Int))
 (cond (Nat.ble 0 prefix_1.length && Nat.ble prefix_1.length s_0.length) (some (Gp .eql ((s_0.take prefix_1.length).drop 0) prefix_1)) none)
 (some false)
theorem Uw {N} {s_0} {prefix_1} {r} (h : Zr N s_0 prefix_1 = some r) : pU 208 [.str s_0, .str prefix_1] (.bool r) := by
 refine Q0 Qsm ?_;unfold Zr at h;rw [cX, cY] at h;refine iR h fun h => ?_;refine kU h fun h => ?_;cases h; exact (.p _)
def Zq (N : Nat) (s_0 : List UInt8) (prefix_1 : List UInt8) : Option ((List UInt8) × Bool) :=
 (Zr N s_0 prefix_1).bind fun v1 =>
 cond (!v1)
 (some (s_0, false))
 (cond (Nat.ble prefix_1.length s_0.length && Nat.ble s_0.length s_0.length) (some (((s_0.take s_0.length).drop prefix_1.length), true)) none)
theorem Ur {N} {s_0} {prefix_1} {r} (h : Zq N s_0 prefix_1 = some r) : pU 196 [.str s_0, .str prefix_1] (.tuple [.str r.1, .bool r.2]) := by
 refine Q0 Qwj ?_;unfold Zq at h;refine cP h Uw p2 fun v1 h => ?_;refine iL2 h fun h => ?_;refine kU h fun h => ?_;obtain rfl := Qo h; exact u2
def Xx (N : Nat) (s_0 : List UInt8) (prefix_1 : List UInt8) : Option ((List UInt8) × Bool) :=
 (Zq N s_0 prefix_1).bind fun v1 =>
 some (v1.1, v1.2)
theorem Q2e {N} {s_0} {prefix_1} {r} (h : Xx N s_0 prefix_1 = some r) : pU 179 [.str s_0, .str prefix_1] (.tuple [.str r.1, .bool r.2]) := by
 refine Q0 Qta ?_;unfold Xx at h;refine cP h Ur p2 fun v1 h => ?_;obtain rfl := Qo h; exact u2
def Um (N : Nat) (s_0 : List UInt8) : Option ((List UInt8) × (List UInt8) × Bool) :=
 (Xx N s_0 [36, 115, 104, 97, 114, 101, 47]).bind fun v1 =>
 cond (Gp .eql [47] v1.1)
 (cond (Nat.ble 1 v1.1.length && Nat.ble v1.1.length v1.1.length) (cond (!v1.2)
 (some ([], [], false))
 ((Qx N s_0).bind fun v6 =>
 cond (!v6)
 (some ([], [], false))
 ((Y8 N ((v1.1.take 0).drop 0)).bind fun v9 =>
 cond (!v9)
 (some ([], [], false))
 ((Xo N ((v1.1.take v1.1.length).drop 1)).bind fun v12 =>
 cond (!v12)
 (some ([], [], false))
 (some (((v1.1.take 0).drop 0), ((v1.1.take v1.1.length).drop 1), true)))))) none)
 ((Qf N v1.1 47).bind fun v15 =>
 cond (Q7 .geq v15 0)
 (cond (decide (0 ≤ v15)) (cond (Nat.ble 0 v15.toNat && Nat.ble v15.toNat v1.1.length) (cond (decide (0 ≤ (wrap .i64 (v15 + 1)))) (cond (Nat.ble (wrap .i64 (v15 + 1)).toNat v1.1.length && Nat.ble v1.1.length v1.1.length) (cond (!v1.2)
 (some ([], [], false))
 ((Qx N s_0).bind fun v23 =>
 cond (!v23)
 (some ([], [], false))
 ((Y8 N ((v1.1.take v15.toNat).drop 0)).bind fun v26 =>
 cond (!v26)
 (some ([], [], false))
 ((Xo N ((v1.1.take v1.1.length).drop ((wrap .i64 (v15 + 1)).toNat))).bind fun v29 =>
 cond (!v29)
 (some ([], [], false))
 (some (((v1.1.take v15.toNat).drop 0), ((v1.1.take v1.1.length).drop ((wrap .i64 (v15 + 1)).toNat)), true)))))) none) none) none) none)
 (cond (!v1.2)
 (some ([], [], false))
 (some ([], [], false))))
theorem Q65 {N} {s_0} {r} (h : Um N s_0 = some r) : pU 157 [.str s_0] (.tuple [.str r.1, .str r.2.1, .bool r.2.2]) := by
 refine Q0 Qv2 ?_;unfold Um at h;rw [cX, cY] at h;refine cP h Q2e p2 fun v1 h => ?_;refine Xr Qve ?_;refine Xr Qs5 ?_;refine Xr Qqu ?_;refine dF ?_;apply iU h <;> intro h
 ·refine dT ?_;refine Z1 ?_;refine kU h fun h => ?_;apply iU h <;> intro h
  ·obtain rfl := Qo h; exact u3
  refine cP h Zb p1 fun v6 h => ?_;apply iU h <;> intro h
  ·obtain rfl := Qo h; exact u3
  refine cP h Wp p1 fun v9 h => ?_;apply iU h <;> intro h
  ·obtain rfl := Qo h; exact u3
  refine cP h Jv p1 fun v12 h => ?_;apply iU h <;> intro h
  ·obtain rfl := Qo h; exact u3
  obtain rfl := Qo h; exact u3
 refine dT ?_;refine cP h Y6 p2 fun v15 h => ?_;apply iU h <;> intro h
 ·refine Z1 ?_;refine kU h fun h => ?_;refine kU h fun h => ?_;refine kU h fun h => ?_;refine kU h fun h => ?_;apply iU h <;> intro h
  ·obtain rfl := Qo h; exact u3
  refine cP h Zb p1 fun v23 h => ?_;apply iU h <;> intro h
  ·obtain rfl := Qo h; exact u3
  refine cP h Wp p1 fun v26 h => ?_;apply iU h <;> intro h
  ·obtain rfl := Qo h; exact u3
  refine cP h Jv p1 fun v29 h => ?_;apply iU h <;> intro h
  ·obtain rfl := Qo h; exact u3
  obtain rfl := Qo h; exact u3
 apply iU h <;> intro h
 ·obtain rfl := Qo h; exact u3
 obtain rfl := Qo h; exact u3
def Xs (N : Nat) (version : Int) (kind : Int) (f : Q2) : Option Bool :=
 cond (Q7 .eql kind 10)
 (cond (((f.Topic : List UInt8) == f.Topic) && (((f.QoS : Int) == f.QoS) && (((f.NoLocal : Bool) == false) && (((f.AsPublished : Bool) == false) && (((f.Handling : Int) == 0) && true)))))
 (some (Q7 .eql f.QoS 0))
 (some false))
 (cond (Q7 .eql version 4)
 (cond (((f.Topic : List UInt8) == f.Topic) && (((f.QoS : Int) == f.QoS) && (((f.NoLocal : Bool) == false) && (((f.AsPublished : Bool) == false) && (((f.Handling : Int) == 0) && true)))))
 ((Yu N f.QoS).bind fun v5 =>
 some v5)
 (some false))
 ((Um N f.Topic).bind fun v7 =>
 (Yu N f.QoS).bind fun v9 =>
 cond v9
 ((Yu N f.Handling).bind fun v12 =>
 cond v12
 (cond v7.2.2
 (some (!f.NoLocal))
 (some true))
 (some false))
 (some false)))
theorem Q2d {N} {version} {kind} {f} {r} (h : Xs N version kind f = some r) : pU 111 [.int .i64 version, .int .i64 kind, .agg (Q2.cells f)] (.bool r) := by
 refine Q0 Qvy ?_;unfold Xs at h;rw [cX] at h;apply iU h <;> intro h
 ·exact iB h
 apply iU h <;> intro h
 ·refine iR h fun h => ?_;refine cP h Uc p1 fun v5 h => ?_;cases h; exact (.p _)
 refine cP h Q65 p1 fun v7 h => ?_;refine cP h Uc p1 fun v9 h => ?_;refine iR h fun h => ?_;refine cP h Uc p1 fun v12 h => ?_;refine iR h fun h => ?_;exact iB h
def Zi (N : Nat) (version : Int) (p : Q3) : Nat → Int → Option Int
 | 0, _ => none
 | n + 1, s52 =>
  cond (Q7 .lss s52 ((Q6 (cI .i64) p.Codes).length : Int))
  ((idx p.Codes s52).bind fun y54 =>
  (Xw N version p.Kind y54).bind fun v56 =>
  cond (!v56)
  (some 2)
  (Zi N version p n (wrap .i64 (s52 + 1))))
  (some 0)
def Zh (N : Nat) (version : Int) (p : Q3) : Nat → Int → Option Int
 | 0, _ => none
 | n + 1, s29 =>
  cond (Q7 .lss s29 ((Q6 Q2.cells p.Filters).length : Int))
  ((idx p.Filters s29).bind fun y31 =>
  (Xo N y31.Topic).bind fun v33 =>
  cond (!v33)
  (some 10)
  ((Xs N version p.Kind y31).bind fun v36 =>
  cond (!v36)
  (some 2)
  (Zh N version p n (wrap .i64 (s29 + 1)))))
  (Zi N version p N 0)
def Ws (N : Nat) (version : Int) (p : Q3) : Option Int :=
 (Wn N version p.Kind).bind fun v1 =>
 cond (!v1)
 (some 2)
 ((Wb N version p).bind fun v4 =>
 cond (!v4)
 (some 2)
 ((Zw N p.Kind p.Props).bind fun v7 =>
 cond (Q7 .neq v7 0)
 (some v7)
 (Zh N version p N 0)))
theorem Q3k {N} {version} {p} {r} (h : Ws N version p = some r) : pU 71 [.int .i64 version, .agg (Q3.cells p)] (.int .i64 r) := by
 refine Q0 k71 ?_;unfold Ws at h;rw [cX] at h;refine cP h Q3j p2 fun v1 h => ?_;refine iL h fun h => ?_;refine cP h Q2n (.cons (.p _) (.cons (Frz.agg' (Y5 (f2_ (f1_ (.cons (.p _) p5))))) .nil)) fun v4 h => ?_;refine iL h fun h => ?_;refine cP h Zt p2 fun v7 h => ?_;refine iL h fun h => ?_;refine lpH (τ := Int) (fun s29 => (iI version :: .any :: .any :: .ptr 0 0 :: a16 (a8 (a2 (.p (.slice 5 (Q6 Q2.cells p.Filters)) :: iI ((Q6 Q2.cells p.Filters).length : Int) :: iI s29 :: a16 (a8 (a4 ([])))))) : List AV)) (fun n0 s29 => Zh N version p n0 s29) (0) h fun n0 s29 h => ?_
 first | rw [Zh] at h | simp only [Zh] at h
 rw [cX] at h;apply iU h <;> intro h
 ·refine xR h fun y31 h => ?_;refine cP h Jv p1 fun v33 h => ?_;refine iL h fun h => ?_;refine cP h Q2d (f2_ (.cons (Frz.agg' p5) .nil)) fun v36 h => ?_;refine iL h fun h => ?_;show Exists _;exact ⟨(n0, (wrap .i64 (s29 + 1))), h, Lg _, (fun i => i), Vf⟩
 refine lpH (τ := Int) (fun s52 => (iI version :: .any :: .any :: .ptr 0 0 :: a16 (a16 (a8 (a4 (.p (.slice 1 (Q6 (cI .i64) p.Codes)) :: .p (.int .i64 ((Q6 (cI .i64) p.Codes).length : Int)) :: iI s52 :: a8 (a2 ([])))))) : List AV)) (fun n1 s52 => Zi N version p n1 s52) (0) h fun n1 s52 h => ?_
 first | rw [Zi] at h | simp only [Zi] at h
 rw [cX] at h;refine iR h fun h => ?_;refine xR h fun y54 h => ?_;refine cP h Q2c p3 fun v56 h => ?_;refine iL h fun h => ?_;show Exists _;exact ⟨(n1, (wrap .i64 (s52 + 1))), h, Lg _, (fun i => i), Vf⟩
def Vc (N : Nat) (s_0 : List UInt8) : Option ((List UInt8) × Int) :=
 (Qx N s_0).bind fun v1 =>
 cond (!v1)
 (some ([], 6))
 ((W2 N s_0).bind fun v4 =>
 some (v4, 0))
theorem Q17 {N} {s_0} {r} (h : Vc N s_0 = some r) : pU 72 [.str s_0] (.tuple [.str r.1, .int .i64 r.2]) := by
 refine Q0 k72 ?_;unfold Vc at h;refine cP h Zb p1 fun v1 h => ?_;refine iL2 h fun h => ?_;refine cP h Q07 p1 fun v4 h => ?_;obtain rfl := Qo h; exact u2
def Yv (_N : Nat) (f : Q2) : Option Int :=
 cond f.NoLocal
 (cond f.AsPublished
 (some (orI .i64 (orI .i64 (orI .i64 (Gm .i64 f.QoS 3) (Q1l .i64 (Gm .i64 f.Handling 3) 4)) 4) 8))
 (some (orI .i64 (orI .i64 (Gm .i64 f.QoS 3) (Q1l .i64 (Gm .i64 f.Handling 3) 4)) 4)))
 (cond f.AsPublished
 (some (orI .i64 (orI .i64 (Gm .i64 f.QoS 3) (Q1l .i64 (Gm .i64 f.Handling 3) 4)) 8))
 (some (orI .i64 (Gm .i64 f.QoS 3) (Q1l .i64 (Gm .i64 f.Handling 3) 4))))
theorem Jo {N} {f} {r} (h : Yv N f = some r) : pU 73 [.agg (Q2.cells f)] (.int .i64 r) := by
 refine Q0 k73 ?_;unfold Yv at h;apply iU h <;> intro h
 ·exact iB h
 exact iB h
def Zv (N : Nat) (p : Q3) : Nat → Int → (List Int) → Option ((List UInt8) × Int)
 | 0, _, _ => none
 | n + 1, s76, l77 =>
  cond (Q7 .lss s76 ((Q6 (cI .i64) p.Codes).length : Int))
  ((idx p.Codes s76).bind fun y79 =>
  cond (Nat.ble ((l77.length + 1 + 4096) * 1) 17592186044416) (Zv N p n (wrap .i64 (s76 + 1)) (l77 ++ [(wrap .u8 y79)])) none)
  (some ((l77.map fun n => UInt8.ofNat n.toNat), 0))
def Qm (N : Nat) (p : Q3) : Nat → Int → (List Int) → Option ((List UInt8) × Int)
 | 0, _, _ => none
 | n + 1, s49, l50 =>
  cond (Q7 .lss s49 ((Q6 Q2.cells p.Filters).length : Int))
  ((idx p.Filters s49).bind fun y52 =>
  (Vc N y52.Topic).bind fun v54 =>
  cond (Nat.beq v54.1.length 0)
  (cond (Q7 .eql p.Kind 8)
  ((Yv N y52).bind fun v58 =>
  cond (Nat.ble ((l50.length + 1 + 4096) * 1) 17592186044416) (Qm N p n (wrap .i64 (s49 + 1)) (l50 ++ [(wrap .u8 v58)])) none)
  (Qm N p n (wrap .i64 (s49 + 1)) l50))
  (cond (Nat.ble ((l50.length + v54.1.length + 4096) * 1) 17592186044416) (cond (Q7 .eql p.Kind 8)
  ((Yv N y52).bind fun v63 =>
  cond (Nat.ble (((l50.length + v54.1.length) + 1 + 4096) * 1) 17592186044416) (Qm N p n (wrap .i64 (s49 + 1)) ((l50 ++ (v54.1.map fun b => (b.toNat : Int))) ++ [(wrap .u8 v63)])) none)
  (Qm N p n (wrap .i64 (s49 + 1)) (l50 ++ (v54.1.map fun b => (b.toNat : Int))))) none))
  (Zv N p N 0 l50)
def Xv (N : Nat) (p : Q3) (l11 : List Int) : Option ((List UInt8) × Int) :=
 Qm N p N 0 l11
def V6 (N : Nat) (version : Int) (p : Q3) : Option ((List UInt8) × Int) :=
 (Ws N version p).bind fun v1 =>
 cond (Q7 .neq v1 0)
 (some ([], v1))
 ((Zk N (wrap .u64 p.ID) 2).bind fun v4 =>
 cond (Q7 .eql version 5)
 ((Ym N p.Kind p.Props).bind fun v13 =>
 cond (Nat.beq v13.1.length 0)
 (Xv N p (v4.map fun b => (b.toNat : Int)))
 (cond (Nat.ble ((v4.length + v13.1.length + 4096) * 1) 17592186044416) (Xv N p ((v4.map fun b => (b.toNat : Int)) ++ (v13.1.map fun b => (b.toNat : Int)))) none))
 (Xv N p (v4.map fun b => (b.toNat : Int))))
theorem Q44 {N} {version} {p} {r} (h : V6 N version p = some r) : pU 45 [.int .i64 version, .agg (Q3.cells p)] (.tuple [.str r.1, .int .i64 r.2]) := by
 refine Q0 k45 ?_;unfold V6 at h;rw [cX] at h;refine cP h Q3k (.cons (.p _) (.cons (Frz.agg' (Y5 (f2_ (f1_ (.cons (.p _) p5))))) .nil)) fun v1 h => ?_;refine iL2 h fun h => ?_;refine cP h Z6 p2 fun v4 h => ?_;refine Q7x (b := v4) ?_;refine jrA (r := r) (σ := (List Int)) (fun l11 => (a2 (.any :: .ptr 0 0 :: a2 (.any :: .slice 1 2 0 l11.length :: a16 (a16 (a16 (a16 (a8 (.any :: []))))))) : List AV)) (fun l11 => (.cells (Vt p ([])) :: .dead :: .cells (Y4 (cI .u8) l11) :: [] : List AObj)) (fun l11 => Xv N p l11) ?_ ?_
 ·apply iU h <;> intro h
  ·refine cP h X6 p2 fun v13 h => ?_;refine Q7x (b := v13.1) ?_;apply iU h <;> intro h
   ·show Exists _;exact ⟨((v4.map fun b => (b.toNat : Int))), h, (rho [0, 1, 1]), Vf⟩
   obtain ⟨hk16, h⟩ := Q12 h;refine Wt (Zn (c := (cI .u8)) (e := 1) (l := (v4.map fun b => (b.toNat : Int))) (fun _ => rfl) sd hk16) ?_;refine Gb (c := (cI .u8)) (l := (v4.map fun b => (b.toNat : Int))) (v13.1.map fun b => (b.toNat : Int)) rfl ?_;show Exists _;exact ⟨(((v4.map fun b => (b.toNat : Int)) ++ (v13.1.map fun b => (b.toNat : Int)))), h, (fun i => i), Vf⟩
  show Exists _;exact ⟨((v4.map fun b => (b.toNat : Int))), h, (rho [0, 1, 1]), Vf⟩
 rintro l11 h
 unfold Xv at h;refine lpC (τ := Int × (List Int)) (fun ⟨s49, l50⟩ => (a2 (.any :: .ptr 0 0 :: a2 (.any :: .slice 1 3 0 l50.length :: a16 (a16 (.any :: .p (.slice 5 (Q6 Q2.cells p.Filters)) :: iI ((Q6 Q2.cells p.Filters).length : Int) :: iI s49 :: a16 (a16 (a4 (.any :: []))))))) : List AV)) (fun ⟨_, l50⟩ => (.cells (Vt p ([])) :: .dead :: .dead :: .cells (Y4 (cI .u8) l50) :: [] : List AObj)) (fun n1 ⟨s49, l50⟩ => Qm N p n1 s49 l50) (0, l11) h (rho [0, 1, 2, 2]) Vf fun n1 ⟨s49, l50⟩ h => ?_
 first | rw [Qm] at h | simp only [Qm] at h
 rw [cX] at h;apply iU h <;> intro h
 ·refine xR h fun y52 h => ?_;refine cP h Q17 p1 fun v54 h => ?_;refine Q7x (b := v54.1) ?_;apply iU h <;> intro h
  ·apply iU h <;> intro h
   ·refine cP h Jo (.cons (Frz.agg' p5) .nil) fun v58 h => ?_;obtain ⟨hk60, h⟩ := Q12 h;refine Wt (Zn (c := (cI .u8)) (e := 1) (fun _ => rfl) sd hk60) ?_;refine Gb (c := (cI .u8)) [(wrap .u8 v58)] rfl ?_;show Exists _;exact ⟨(n1, (wrap .i64 (s49 + 1)), (l50 ++ [(wrap .u8 v58)])), h, Lg _, (rho [0, 1, 2, 6]), Vf⟩
   show Exists _;exact ⟨(n1, (wrap .i64 (s49 + 1)), l50), h, Lg _, (fun i => i), Vf⟩
  obtain ⟨hk61, h⟩ := Q12 h;refine Wt (Zn (c := (cI .u8)) (e := 1) (l := l50) (fun _ => rfl) sd hk61) ?_;refine Gb (c := (cI .u8)) (l := l50) (v54.1.map fun b => (b.toNat : Int)) rfl ?_;apply iU h <;> intro h
  ·refine cP h Jo (.cons (Frz.agg' p5) .nil) fun v63 h => ?_;obtain ⟨hk65, h⟩ := Q12 h;refine Wt (Zn (c := (cI .u8)) (e := 1) (fun _ => rfl) sd hk65) ?_;refine Gb (c := (cI .u8)) [(wrap .u8 v63)] rfl ?_;show Exists _;exact ⟨(n1, (wrap .i64 (s49 + 1)), ((l50 ++ (v54.1.map fun b => (b.toNat : Int))) ++ [(wrap .u8 v63)])), h, Lg _, (rho [0, 1, 2, 7]), Vf⟩
  show Exists _;exact ⟨(n1, (wrap .i64 (s49 + 1)), (l50 ++ (v54.1.map fun b => (b.toNat : Int)))), h, Lg _, (rho [0, 1, 2, 5]), Vf⟩
 refine lpC (τ := Int × (List Int)) (fun ⟨s76, l77⟩ => (a4 (a2 (.any :: .slice 1 4 0 l77.length :: a16 (a16 (a16 (a8 (a2 (.any :: .p (.slice 1 (Q6 (cI .i64) p.Codes)) :: .p (.int .i64 ((Q6 (cI .i64) p.Codes).length : Int)) :: iI s76 :: a8 (a2 (.any :: []))))))))) : List AV)) (fun ⟨_, l77⟩ => (.cells (Vt p ([])) :: .dead :: .dead :: .dead :: .cells (Y4 (cI .u8) l77) :: [] : List AObj)) (fun n2 ⟨s76, l77⟩ => Zv N p n2 s76 l77) (0, l50) h (rho [0, 1, 2, 3, 3]) Vf fun n2 ⟨s76, l77⟩ h => ?_
 first | rw [Zv] at h | simp only [Zv] at h
 rw [cX] at h;apply iU h <;> intro h
 ·refine xR h fun y79 h => ?_;obtain ⟨hk81, h⟩ := Q12 h;refine Wt (Zn (c := (cI .u8)) (e := 1) (fun _ => rfl) sd hk81) ?_;refine Gb (c := (cI .u8)) [(wrap .u8 y79)] rfl ?_;show Exists _;exact ⟨(n2, (wrap .i64 (s76 + 1)), (l77 ++ [(wrap .u8 y79)])), h, Lg _, (rho [0, 1, 2, 3, 6]), Vf⟩
 refine Qd8 (l := l77) (n := l77.length) sd ?_;obtain rfl := Qo h; exact u2
def Z8 (N : Nat) (d : Qn) : Option ((List UInt8) × Int) :=
 (V6 N d.version d.p).bind fun v1 =>
 some (v1.1, v1.2)
theorem X3 {N} {d} {r} (h : Z8 N d = some r) : pU 35 [.agg (Qn.cells d)] (.tuple [.str r.1, .int .i64 r.2]) := by
 refine Q0 k35 ?_;unfold Z8 at h;refine cP h Q44 (.cons (.p _) (.cons (Frz.agg' (Y5 (f2_ (f1_ (.cons (.p _) p5))))) .nil)) fun v1 h => ?_;obtain rfl := Qo h; exact u2
def G0 (N : Nat) (code : Int) (l : List Q1) (kind : Int) : Option (List UInt8) :=
 (Ym N kind l).bind fun v1 =>
 cond (Q7 .lss code 0)
 (some [])
 (cond (Q7 .gtr code 255)
 (some [])
 (cond (Q7 .neq v1.2 0)
 (some [])
 ((Zk N (wrap .u64 code) 1).bind fun v6 =>
 cond (Q7 .gtr ((Q6 Q1.cells l).length : Int) 0)
 (cond (Nat.ble (v6.length + v1.1.length) 4611686018427387904) (some (v6 ++ v1.1)) none)
 (cond (Q7 .gtr code 0)
 (some v6)
 (some [])))))
theorem Q6o {N} {code} {l} {kind} {r} (h : G0 N code l kind = some r) : pU 80 [.int .i64 code, .slice 4 (Q6 Q1.cells l), .int .i64 kind] (.str r) := by
 refine Q0 k80 ?_;unfold G0 at h;rw [cX] at h;refine cP h X6 p2 fun v1 h => ?_;refine iL h fun h => ?_;refine iL h fun h => ?_;refine iL h fun h => ?_;refine cP h Z6 p2 fun v6 h => ?_;apply iU h <;> intro h
 ·refine kU h fun h => ?_;cases h; exact (.p _)
 exact iB h
def Xh (_N : Nat) (a : Ya) (version : Int) : Option Bool :=
 some (Q7 .eql version 5)
theorem Jf {N} {a} {version} {r} (h : Xh N a version = some r) : pU 120 [.agg (Ya.cells a), .int .i64 version] (.bool r) := by
 refine Q0 Qs9 ?_;unfold Xh at h;rw [cX] at h;cases h; exact (.p _)
def Yc (_N : Nat) (a : Ya) (version : Int) : Option Bool :=
 some false
theorem U6 {N} {a} {version} {r} (h : Yc N a version = some r) : pU 119 [.agg (Ya.cells a), .int .i64 version] (.bool r) := by
 refine Q0 Qt2 ?_;unfold Yc at h;cases h; exact (.p _)
def V9 (N : Nat) (version : Int) (kind : Int) : Option (Bool × Bool) :=
 cond ((kind : Int) == 12)
 ((Yc N (⟨⟩ : Ya) version).bind fun v2 =>
 some (v2, true))
 (cond ((kind : Int) == 13)
 ((Yc N (⟨⟩ : Ya) version).bind fun v5 =>
 some (v5, true))
 (cond ((kind : Int) == 14)
 ((Xh N (⟨⟩ : Ya) version).bind fun v8 =>
 some (v8, true))
 (cond ((kind : Int) == 15)
 ((Xh N (⟨⟩ : Ya) version).bind fun v11 =>
 some (v11, true))
 (some (false, false)))))
theorem Q15 {N} {version} {kind} {r} (h : V9 N version kind = some r) : pU 82 [.int .i64 version, .int .i64 kind] (.tuple [.bool r.1, .bool r.2]) := by
 refine Q0 k82 ?_;unfold V9 at h;apply iU h <;> intro h
 ·refine cP h U6 (.cons (Frz.agg' .nil) p1) fun v2 h => ?_;obtain rfl := Qo h; exact u2
 apply iU h <;> intro h
 ·refine cP h U6 (.cons (Frz.agg' .nil) p1) fun v5 h => ?_;obtain rfl := Qo h; exact u2
 apply iU h <;> intro h
 ·refine cP h Jf (.cons (Frz.agg' .nil) p1) fun v8 h => ?_;obtain rfl := Qo h; exact u2
 refine iR2 h fun h => ?_;refine cP h Jf (.cons (Frz.agg' .nil) p1) fun v11 h => ?_;obtain rfl := Qo h; exact u2
def Vy (N : Nat) (version : Int) (kind : Int) : Option Int :=
 (V9 N version kind).bind fun v1 =>
 cond (!v1.2)
 (some 2)
 (cond (Q7 .neq version 4)
 (cond (Q7 .neq version 5)
 (some 2)
 (cond (Q7 .eql kind 15)
 (cond (Q7 .eql version 4)
 (some 8)
 (some 0))
 (some 0)))
 (cond (Q7 .eql kind 15)
 (cond (Q7 .eql version 4)
 (some 8)
 (some 0))
 (some 0)))
theorem Q53 {N} {version} {kind} {r} (h : Vy N version kind = some r) : pU 81 [.int .i64 version, .int .i64 kind] (.int .i64 r) := by
 refine Q0 k81 ?_;unfold Vy at h;rw [cX] at h;refine cP h Q15 p2 fun v1 h => ?_;refine iL h fun h => ?_;apply iU h <;> intro h
 ·refine iL h fun h => ?_;refine iR h fun h => ?_;exact iB h
 refine iR h fun h => ?_;exact iB h
def Vm (N : Nat) (version : Int) (p : Q3) : Option Int :=
 (Vy N version p.Kind).bind fun v1 =>
 cond (Q7 .neq v1 0)
 (some v1)
 ((V9 N version p.Kind).bind fun v4 =>
 cond v4.1
 ((Wu N p.Kind p.Code).bind fun v7 =>
 cond (!v7)
 (some 2)
 ((Qw N p (⟨p.Kind, false, false, 0, 0, [], [], false, 0, [], false, [], false, [], false, (⟨[], [], 0, false, []⟩ : Xe), false, p.Code, [], [], p.Props⟩ : Q3)).bind fun v10 =>
 cond (!v10)
 (some 2)
 ((Zw N p.Kind p.Props).bind fun v13 =>
 some v13)))
 ((Qw N p (⟨p.Kind, false, false, 0, 0, [], [], false, 0, [], false, [], false, [], false, (⟨[], [], 0, false, []⟩ : Xe), false, 0, [], [], []⟩ : Q3)).bind fun v15 =>
 cond (!v15)
 (some 2)
 ((Zw N p.Kind p.Props).bind fun v18 =>
 some v18)))
theorem Q5i {N} {version} {p} {r} (h : Vm N version p = some r) : pU 79 [.int .i64 version, .agg (Q3.cells p)] (.int .i64 r) := by
 refine Q0 k79 ?_;unfold Vm at h;rw [cX] at h;refine cP h Q53 p2 fun v1 h => ?_;refine iL h fun h => ?_;refine cP h Q15 p2 fun v4 h => ?_;apply iU h <;> intro h
 ·refine cP h U1 p2 fun v7 h => ?_;refine iL h fun h => ?_;refine Z1 ?_;refine cP h Qk (.cons (Frz.agg' (Y5 (f2_ (f1_ (.cons (.p _) p5))))) (.cons (Frz.agg' (Y5 (f2_ (f1_ (.cons (.nil _) (f2_ (.cons (.nil _) (.cons (.nil _) p1)))))))) .nil)) fun v10 h => ?_;refine iL h fun h => ?_;refine cP h Zt p2 fun v13 h => ?_;cases h; exact (.p _)
 refine cP h Qk (.cons (Frz.agg' (Y5 (f2_ (f1_ (.cons (.p _) p5))))) (.cons (Frz.agg' (Y5 (f2_ (f1_ (.cons (.nil _) (f2_ (.cons (.nil _) (.cons (.nil _) (.cons (.nil _) .nil))))))))) .nil)) fun v15 h => ?_;refine iL h fun h => ?_;refine cP h Zt p2 fun v18 h => ?_;cases h; exact (.p _)
def Uf (N : Nat) (version : Int) (p : Q3) : Option ((List UInt8) × Int) :=
 (Vm N version p).bind fun v1 =>
 cond (Q7 .neq v1 0)
 (some ([], v1))
 ((G0 N p.Code p.Props p.Kind).bind fun v4 =>
 some (v4, 0))
theorem Q67 {N} {version} {p} {r} (h : Uf N version p = some r) : pU 47 [.int .i64 version, .agg (Q3.cells p)] (.tuple [.str r.1, .int .i64 r.2]) := by
 refine Q0 k47 ?_;unfold Uf at h;rw [cX] at h;refine cP h Q5i (.cons (.p _) (.cons (Frz.agg' (Y5 (f2_ (f1_ (.cons (.p _) p5))))) .nil)) fun v1 h => ?_;refine iL2 h fun h => ?_;refine cP h Q6o p3 fun v4 h => ?_;obtain rfl := Qo h; exact u2
def Zj (N : Nat) (d : Qn) : Option ((List UInt8) × Int) :=
 (Uf N d.version d.p).bind fun v1 =>
 some (v1.1, v1.2)
theorem Xm {N} {d} {r} (h : Zj N d = some r) : pU 37 [.agg (Qn.cells d)] (.tuple [.str r.1, .int .i64 r.2]) := by
 refine Q0 k37 ?_;unfold Zj at h;refine cP h Q67 (.cons (.p _) (.cons (Frz.agg' (Y5 (f2_ (f1_ (.cons (.p _) p5))))) .nil)) fun v1 h => ?_;obtain rfl := Qo h; exact u2
def Yb (_N : Nat) (is : Bool) (e : Int) : Option Int :=
 cond is
 (some e)
 (some 0)
theorem Xp {N} {is} {e} {r} (h : Yb N is e = some r) : pU 122 [.bool is, .int .i64 e] (.int .i64 r) := by
 refine Q0 Qua ?_;unfold Yb at h;exact iB h
def Vo (_N : Nat) (version : Int) : Option Bool :=
 cond (Q7 .eql version 4)
 (some true)
 (some (Q7 .eql version 5))
theorem Q5o {N} {version} {r} (h : Vo N version = some r) : pU 85 [.int .i64 version] (.bool r) := by
 refine Q0 k85 ?_;unfold Vo at h;rw [cX] at h;exact iB h
def Q0q (_N : Nat) (kind : Int) : Option Int :=
 cond (Q7 .eql kind 6)
 (some 2)
 (cond (Q7 .eql kind 8)
 (some 2)
 (cond (Q7 .eql kind 10)
 (some 2)
 (some 0)))
theorem Q8o {N} {kind} {r} (h : Q0q N kind = some r) : pU 162 [.int .i64 kind] (.int .i64 r) := by
 refine Q0 Qvi ?_;unfold Q0q at h;rw [cX] at h;refine ifO h (fun hc1 h => ?_) (fun hc1 h => ?_)
 ·refine ifT hc1 ?_;cases h; exact (.p _)
 refine ifO h (fun hc2 h => ?_) (fun hc2 h => ?_)
 ·refine ifT hc2 ?_;cases h; exact (.p _)
 exact iB h
def Q0s (_N : Nat) (version : Int) : Option Bool :=
 cond (Q7 .eql version 4)
 (some true)
 (some (Q7 .eql version 5))
theorem Q94 {N} {version} {r} (h : Q0s N version = some r) : pU 130 [.int .i64 version] (.bool r) := by
 refine Q0 Qrj ?_;unfold Q0s at h;rw [cX] at h;exact iB h
def Q0w (_N : Nat) (version : Int) (kind : Int) : Option Bool :=
 cond (Q7 .eql version 5)
 (cond (Q7 .geq kind 1)
 (some (Q7 .leq kind 15))
 (some false))
 (cond (Q7 .geq kind 1)
 (some (Q7 .leq kind 14))
 (some false))
theorem Q8f {N} {version} {kind} {r} (h : Q0w N version kind = some r) : pU 131 [.int .i64 version, .int .i64 kind] (.bool r) := by
 refine Q0 Qtb ?_;unfold Q0w at h;rw [cX] at h;apply iU h <;> intro h
 ·exact iB h
 exact iB h
def Uy (N : Nat) (version : Int) (p : Q3) : Option (Int × Int) :=
 (Q0s N version).bind fun v1 =>
 cond (!v1)
 (some (0, 2))
 ((Q0w N version p.Kind).bind fun v4 =>
 cond (!v4)
 (some (0, 8))
 (cond (Q7 .neq p.Kind 3)
 ((Q0q N p.Kind).bind fun v8 =>
 some (v8, 0))
 (cond (Q7 .lss p.QoS 0)
 (some (0, 7))
 (cond (Q7 .gtr p.QoS 2)
 (some (0, 7))
 (cond (Q7 .eql p.QoS 0)
 (cond p.Dup
 (some (0, 7))
 (cond p.Retain
 (some ((orI .i64 (wrap .i64 (p.QoS * 2)) 1), 0))
 (some ((wrap .i64 (p.QoS * 2)), 0))))
 (cond p.Retain
 (cond p.Dup
 (some ((orI .i64 (orI .i64 (wrap .i64 (p.QoS * 2)) 1) 8), 0))
 (some ((orI .i64 (wrap .i64 (p.QoS * 2)) 1), 0)))
 (cond p.Dup
 (some ((orI .i64 (wrap .i64 (p.QoS * 2)) 8), 0))
 (some ((wrap .i64 (p.QoS * 2)), 0)))))))))
theorem Q2y {N} {version} {p} {r} (h : Uy N version p = some r) : pU 124 [.int .i64 version, .agg (Q3.cells p)] (.tuple [.int .i64 r.1, .int .i64 r.2]) := by
 refine Q0 Qv1 ?_;unfold Uy at h;rw [cX] at h;refine cP h Q94 p1 fun v1 h => ?_;refine iL2 h fun h => ?_;refine cP h Q8f p2 fun v4 h => ?_;refine iL2 h fun h => ?_;apply iU h <;> intro h
 ·refine cP h Q8o p1 fun v8 h => ?_;obtain rfl := Qo h; exact u2
 refine iL2 h fun h => ?_;refine iL2 h fun h => ?_;apply iU h <;> intro h
 ·refine oL2 h fun hc13 h => ?_;apply iU h <;> intro h
  ·refine ifF hc13 ?_;obtain rfl := Qo h; exact u2
  refine ifF hc13 ?_;obtain rfl := Qo h; exact u2
 apply iU h <;> intro h
 ·exact iB2 h
 exact iB2 h
def W3 (N : Nat) (version : Int) (p : Q3) : Option Bool :=
 (Qw N p (⟨p.Kind, p.Dup, p.Retain, p.QoS, p.ID, p.Topic, p.Payload, false, 0, [], false, [], false, [], false, (⟨[], [], 0, false, []⟩ : Xe), false, 0, [], [], p.Props⟩ : Q3)).bind fun v1 =>
 cond (!v1)
 (some false)
 (cond (Q7 .eql version 4)
 (cond (Q7 .gtr ((Q6 Q1.cells p.Props).length : Int) 0)
 (some false)
 (cond (Q7 .eql p.QoS 0)
 (some (Q7 .eql p.ID 0))
 (cond (Q7 .gtr p.ID 0)
 (some (Q7 .lss p.ID 65536))
 (some false))))
 (cond (Q7 .eql p.QoS 0)
 (some (Q7 .eql p.ID 0))
 (cond (Q7 .gtr p.ID 0)
 (some (Q7 .lss p.ID 65536))
 (some false))))
theorem Q0h {N} {version} {p} {r} (h : W3 N version p = some r) : pU 126 [.int .i64 version, .agg (Q3.cells p)] (.bool r) := by
 refine Q0 Qru ?_;unfold W3 at h;rw [cX] at h;refine cP h Qk (.cons (Frz.agg' (Y5 (f2_ (f1_ (.cons (.p _) p5))))) (.cons (Frz.agg' (Y5 (f2_ (f1_ (.cons (.nil _) (f2_ (.cons (.nil _) (.cons (.nil _) p1)))))))) .nil)) fun v1 h => ?_;refine iL h fun h => ?_;apply iU h <;> intro h
 ·refine iL h fun h => ?_;refine iL h fun h => ?_;exact iB h
 refine iL h fun h => ?_;exact iB h
def V0 (N : Nat) (l : List Q1) (id : Int) : Nat → Int → Option (Q1 × Bool)
 | 0, _ => none
 | n + 1, s10 =>
  cond (Q7 .lss s10 ((Q6 Q1.cells l).length : Int))
  ((idx l s10).bind fun y12 =>
  cond (Q7 .eql y12.ID id)
  (some (y12, true))
  (V0 N l id n (wrap .i64 (s10 + 1))))
  (some ((⟨0, 0, [], []⟩ : Q1), false))
def Gy (N : Nat) (l : List Q1) (id : Int) : Option (Q1 × Bool) :=
 V0 N l id N 0
theorem Qbs {N} {l} {id} {r} (h : Gy N l id = some r) : pU 188 [.slice 4 (Q6 Q1.cells l), .int .i64 id] (.tuple [.agg (Q1.cells r.1), .bool r.2]) := by
 refine Q0 Qt5 ?_;unfold Gy at h;refine lpH (τ := Int) (fun s10 => (.any :: iI id :: .any :: .any :: .ptr 0 0 :: a2 (.any :: .p (.slice 4 (Q6 Q1.cells l)) :: iI ((Q6 Q1.cells l).length : Int) :: iI s10 :: a8 (a2 ([]))) : List AV)) (fun n0 s10 => V0 N l id n0 s10) (0) h fun n0 s10 h => ?_
 first | rw [V0] at h | simp only [V0] at h
 rw [cX] at h;apply iU h <;> intro h
 ·refine xR h fun y12 h => ?_;apply iU h <;> intro h
  ·obtain rfl := Qo h; exact (Frz.tuple' (.cons q4 p1))
  show Exists _;exact ⟨(n0, (wrap .i64 (s10 + 1))), h, Lg _, (fun i => i), Vf⟩
 obtain rfl := Qo h; exact (Frz.tuple' (.cons q4 p1))
def Jb (N : Nat) (p : Q3) : Option (Int × Bool) :=
 (Gy N p.Props 35).bind fun v1 =>
 some ((wrap .i64 v1.1.N'), v1.2)
theorem Q4x {N} {p} {r} (h : Jb N p = some r) : pU 163 [.agg (Q3.cells p)] (.tuple [.int .i64 r.1, .bool r.2]) := by
 refine Q0 Qv5 ?_;unfold Jb at h;refine cP h Qbs p2 fun v1 h => ?_;obtain rfl := Qo h; exact u2
def Wm (N : Nat) (version : Int) (p : Q3) : Option Bool :=
 (Jb N p).bind fun v1 =>
 (Y8 N p.Topic).bind fun v3 =>
 cond v3
 (some true)
 (cond (Q7 .eql version 5)
 (cond v1.2
 (some (Gp .eql p.Topic []))
 (some false))
 (some false))
theorem Q0t {N} {version} {p} {r} (h : Wm N version p = some r) : pU 128 [.int .i64 version, .agg (Q3.cells p)] (.bool r) := by
 refine Q0 Qug ?_;unfold Wm at h;rw [cX, cY] at h;refine cP h Q4x (.cons (Frz.agg' (Y5 (f2_ (f1_ (.cons (.p _) p5))))) .nil) fun v1 h => ?_;refine cP h Wp p1 fun v3 h => ?_;refine iL h fun h => ?_;refine iR h fun h => ?_;exact iB h
def Vk (N : Nat) (version : Int) (p : Q3) : Option Int :=
 (Vo N version).bind fun v1 =>
 cond (!v1)
 ((Yb N true 2).bind fun v4 =>
 cond (Q7 .neq v4 0)
 (some v4)
 ((Uy N version p).bind fun v7 =>
 cond (Q7 .neq v7.2 0)
 (some v7.2)
 ((W3 N version p).bind fun v10 =>
 (Yb N (!v10) 2).bind fun v12 =>
 cond (Q7 .neq v12 0)
 (some v12)
 ((Wm N version p).bind fun v15 =>
 (Yb N (!v15) 10).bind fun v17 =>
 cond (Q7 .neq v17 0)
 (some v17)
 ((Zw N 3 p.Props).bind fun v20 =>
 cond (Q7 .neq v20 0)
 (some v20)
 (some 0))))))
 ((Yb N (Q7 .neq p.Kind 3) 2).bind fun v23 =>
 cond (Q7 .neq v23 0)
 (some v23)
 ((Uy N version p).bind fun v26 =>
 cond (Q7 .neq v26.2 0)
 (some v26.2)
 ((W3 N version p).bind fun v29 =>
 (Yb N (!v29) 2).bind fun v31 =>
 cond (Q7 .neq v31 0)
 (some v31)
 ((Wm N version p).bind fun v34 =>
 (Yb N (!v34) 10).bind fun v36 =>
 cond (Q7 .neq v36 0)
 (some v36)
 ((Zw N 3 p.Props).bind fun v39 =>
 cond (Q7 .neq v39 0)
 (some v39)
 (some 0))))))
theorem Q4z {N} {version} {p} {r} (h : Vk N version p = some r) : pU 84 [.int .i64 version, .agg (Q3.cells p)] (.int .i64 r) := by
 refine Q0 k84 ?_;unfold Vk at h;rw [cX] at h;refine Q45 7 ?_;refine dT ?_;refine Xr Qu2 ?_;refine cP h Q5o p1 fun v1 h => ?_;apply iU h <;> intro h
 ·refine cP h Xp p2 fun v4 h => ?_;refine iL h fun h => ?_;refine dT ?_;refine Xr Qqh ?_;refine cP h Q2y (.cons (.p _) (.cons (Frz.agg' (Y5 (f2_ (f1_ (.cons (.p _) p5))))) .nil)) fun v7 h => ?_;refine iL h fun h => ?_;refine dT ?_;refine Xr Qqe ?_;refine cP h Q0h (.cons (.p _) (.cons (Frz.agg' (Y5 (f2_ (f1_ (.cons (.p _) p5))))) .nil)) fun v10 h => ?_;refine cP h Xp p2 fun v12 h => ?_;refine iL h fun h => ?_;refine dT ?_;refine Xr Qqc ?_;refine cP h Q0t (.cons (.p _) (.cons (Frz.agg' (Y5 (f2_ (f1_ (.cons (.p _) p5))))) .nil)) fun v15 h => ?_;refine cP h Xp p2 fun v17 h => ?_;refine iL h fun h => ?_;refine dT ?_;refine Xr Qq4 ?_;refine cP h Zt p2 fun v20 h => ?_;refine iL h fun h => ?_;refine dF ?_;cases h; exact (.p _)
 refine cP h Xp p2 fun v23 h => ?_;refine iL h fun h => ?_;refine dT ?_;refine Xr Qqh ?_;refine cP h Q2y (.cons (.p _) (.cons (Frz.agg' (Y5 (f2_ (f1_ (.cons (.p _) p5))))) .nil)) fun v26 h => ?_;refine iL h fun h => ?_;refine dT ?_;refine Xr Qqe ?_;refine cP h Q0h (.cons (.p _) (.cons (Frz.agg' (Y5 (f2_ (f1_ (.cons (.p _) p5))))) .nil)) fun v29 h => ?_;refine cP h Xp p2 fun v31 h => ?_;refine iL h fun h => ?_;refine dT ?_;refine Xr Qqc ?_;refine cP h Q0t (.cons (.p _) (.cons (Frz.agg' (Y5 (f2_ (f1_ (.cons (.p _) p5))))) .nil)) fun v34 h => ?_;refine cP h Xp p2 fun v36 h => ?_;refine iL h fun h => ?_;refine dT ?_;refine Xr Qq4 ?_;refine cP h Zt p2 fun v39 h => ?_;refine iL h fun h => ?_;refine dF ?_;cases h; exact (.p _)
def Un (N : Nat) (version : Int) (p : Q3) : Option ((List UInt8) × Int) :=
 (Vk N version p).bind fun v1 =>
 cond (Q7 .neq v1 0)
 (some ([], v1))
 ((Vc N p.Topic).bind fun v4 =>
 cond (Q7 .neq p.QoS 0)
 ((Zk N (wrap .u64 p.ID) 2).bind fun v7 =>
 cond (Nat.ble (v4.1.length + v7.length) 4611686018427387904) (cond (Q7 .eql version 5)
 ((Ym N p.Kind p.Props).bind fun v11 =>
 cond (Nat.ble ((v4.1 ++ v7).length + v11.1.length) 4611686018427387904) (cond (Nat.ble (((v4.1 ++ v7) ++ v11.1).length + p.Payload.length) 4611686018427387904) (some ((((v4.1 ++ v7) ++ v11.1) ++ p.Payload), 0)) none) none)
 (cond (Nat.ble ((v4.1 ++ v7).length + p.Payload.length) 4611686018427387904) (some (((v4.1 ++ v7) ++ p.Payload), 0)) none)) none)
 (cond (Q7 .eql version 5)
 ((Ym N p.Kind p.Props).bind fun v17 =>
 cond (Nat.ble (v4.1.length + v17.1.length) 4611686018427387904) (cond (Nat.ble ((v4.1 ++ v17.1).length + p.Payload.length) 4611686018427387904) (some (((v4.1 ++ v17.1) ++ p.Payload), 0)) none) none)
 (cond (Nat.ble (v4.1.length + p.Payload.length) 4611686018427387904) (some ((v4.1 ++ p.Payload), 0)) none)))
theorem Q6b {N} {version} {p} {r} (h : Un N version p = some r) : pU 49 [.int .i64 version, .agg (Q3.cells p)] (.tuple [.str r.1, .int .i64 r.2]) := by
 refine Q0 k49 ?_;unfold Un at h;rw [cX] at h;refine cP h Q4z (.cons (.p _) (.cons (Frz.agg' (Y5 (f2_ (f1_ (.cons (.p _) p5))))) .nil)) fun v1 h => ?_;refine iL2 h fun h => ?_;refine cP h Q17 p1 fun v4 h => ?_;apply iU h <;> intro h
 ·refine cP h Z6 p2 fun v7 h => ?_;refine kU h fun h => ?_;apply iU h <;> intro h
  ·refine cP h X6 p2 fun v11 h => ?_;refine kU h fun h => ?_;refine kU h fun h => ?_;obtain rfl := Qo h; exact u2
  refine kU h fun h => ?_;obtain rfl := Qo h; exact u2
 apply iU h <;> intro h
 ·refine cP h X6 p2 fun v17 h => ?_;refine kU h fun h => ?_;refine kU h fun h => ?_;obtain rfl := Qo h; exact u2
 refine kU h fun h => ?_;obtain rfl := Qo h; exact u2
def Xg (N : Nat) (d : Qn) : Option ((List UInt8) × Int) :=
 (Un N d.version d.p).bind fun v1 =>
 some (v1.1, v1.2)
theorem Q1v {N} {d} {r} (h : Xg N d = some r) : pU 39 [.agg (Qn.cells d)] (.tuple [.str r.1, .int .i64 r.2]) := by
 refine Q0 k39 ?_;unfold Xg at h;refine cP h Q6b (.cons (.p _) (.cons (Frz.agg' (Y5 (f2_ (f1_ (.cons (.p _) p5))))) .nil)) fun v1 h => ?_;obtain rfl := Qo h; exact u2
def Uj (_N : Nat) (kind : Int) : Option Bool :=
 cond (Q7 .eql kind 1)
 (some true)
 (some (Q7 .eql kind 2))
theorem Q6l {N} {kind} {r} (h : Uj N kind = some r) : pU 58 [.int .i64 kind] (.bool r) := by
 refine Q0 k58 ?_;unfold Uj at h;rw [cX] at h;exact iB h
def Vq (N : Nat) (p : Q3) : Option Bool :=
 cond (Q7 .eql p.Kind 2)
 ((Qw N p (⟨p.Kind, false, false, 0, 0, [], [], false, 0, [], false, [], false, [], false, (⟨[], [], 0, false, []⟩ : Xe), p.Session, p.Code, [], [], p.Props⟩ : Q3)).bind fun v2 =>
 some v2)
 (cond p.HasWill
 (cond p.HasUser
 (cond p.HasPass
 ((Qw N p (⟨p.Kind, false, false, 0, 0, [], [], p.Clean, p.KeepAlive, p.Client, p.HasUser, p.User, p.HasPass, p.Pass, p.HasWill, p.Will, false, 0, [], [], p.Props⟩ : Q3)).bind fun v7 =>
 some v7)
 ((Qw N p (⟨p.Kind, false, false, 0, 0, [], [], p.Clean, p.KeepAlive, p.Client, p.HasUser, p.User, p.HasPass, [], p.HasWill, p.Will, false, 0, [], [], p.Props⟩ : Q3)).bind fun v9 =>
 some v9))
 (cond p.HasPass
 ((Qw N p (⟨p.Kind, false, false, 0, 0, [], [], p.Clean, p.KeepAlive, p.Client, p.HasUser, [], p.HasPass, p.Pass, p.HasWill, p.Will, false, 0, [], [], p.Props⟩ : Q3)).bind fun v12 =>
 some v12)
 ((Qw N p (⟨p.Kind, false, false, 0, 0, [], [], p.Clean, p.KeepAlive, p.Client, p.HasUser, [], p.HasPass, [], p.HasWill, p.Will, false, 0, [], [], p.Props⟩ : Q3)).bind fun v14 =>
 some v14)))
 (cond p.HasUser
 (cond p.HasPass
 ((Qw N p (⟨p.Kind, false, false, 0, 0, [], [], p.Clean, p.KeepAlive, p.Client, p.HasUser, p.User, p.HasPass, p.Pass, p.HasWill, (⟨[], [], 0, false, []⟩ : Xe), false, 0, [], [], p.Props⟩ : Q3)).bind fun v18 =>
 some v18)
 ((Qw N p (⟨p.Kind, false, false, 0, 0, [], [], p.Clean, p.KeepAlive, p.Client, p.HasUser, p.User, p.HasPass, [], p.HasWill, (⟨[], [], 0, false, []⟩ : Xe), false, 0, [], [], p.Props⟩ : Q3)).bind fun v20 =>
 some v20))
 (cond p.HasPass
 ((Qw N p (⟨p.Kind, false, false, 0, 0, [], [], p.Clean, p.KeepAlive, p.Client, p.HasUser, [], p.HasPass, p.Pass, p.HasWill, (⟨[], [], 0, false, []⟩ : Xe), false, 0, [], [], p.Props⟩ : Q3)).bind fun v23 =>
 some v23)
 ((Qw N p (⟨p.Kind, false, false, 0, 0, [], [], p.Clean, p.KeepAlive, p.Client, p.HasUser, [], p.HasPass, [], p.HasWill, (⟨[], [], 0, false, []⟩ : Xe), false, 0, [], [], p.Props⟩ : Q3)).bind fun v25 =>
 some v25))))
theorem Q5t {N} {p} {r} (h : Vq N p = some r) : pU 89 [.agg (Q3.cells p)] (.bool r) := by
 refine Q0 k89 ?_;unfold Vq at h;rw [cX] at h;apply iU h <;> intro h
 ·refine Z1 ?_;refine cP h Qk (.cons (Frz.agg' (Y5 (f2_ (f1_ (.cons (.p _) p5))))) (.cons (Frz.agg' (Y5 (f2_ (f1_ (.cons (.nil _) (f2_ (.cons (.nil _) (.cons (.nil _) p1)))))))) .nil)) fun v2 h => ?_;cases h; exact (.p _)
 refine Z1 ?_;apply iU h <;> intro h
 ·apply iU h <;> intro h
  ·apply iU h <;> intro h
   ·refine cP h Qk (.cons (Frz.agg' (Y5 (f2_ (f1_ (.cons (.p _) p5))))) (.cons (Frz.agg' (Y5 (f4_ (f2_ (.cons (.nil _) (.cons (.nil _) p1)))))) .nil)) fun v7 h => ?_;cases h; exact (.p _)
   refine cP h Qk (.cons (Frz.agg' (Y5 (f2_ (f1_ (.cons (.p _) p5))))) (.cons (Frz.agg' (Y5 (f4_ (f2_ (.cons (.nil _) (.cons (.nil _) p1)))))) .nil)) fun v9 h => ?_;cases h; exact (.p _)
  apply iU h <;> intro h
  ·refine cP h Qk (.cons (Frz.agg' (Y5 (f2_ (f1_ (.cons (.p _) p5))))) (.cons (Frz.agg' (Y5 (f4_ (f2_ (.cons (.nil _) (.cons (.nil _) p1)))))) .nil)) fun v12 h => ?_;cases h; exact (.p _)
  refine cP h Qk (.cons (Frz.agg' (Y5 (f2_ (f1_ (.cons (.p _) p5))))) (.cons (Frz.agg' (Y5 (f4_ (f2_ (.cons (.nil _) (.cons (.nil _) p1)))))) .nil)) fun v14 h => ?_;cases h; exact (.p _)
 apply iU h <;> intro h
 ·apply iU h <;> intro h
  ·refine cP h Qk (.cons (Frz.agg' (Y5 (f2_ (f1_ (.cons (.p _) p5))))) (.cons (Frz.agg' (Y5 (f2_ (f1_ (.cons (.nil _) (f2_ (.cons (.nil _) (.cons (.nil _) p1)))))))) .nil)) fun v18 h => ?_;cases h; exact (.p _)
  refine cP h Qk (.cons (Frz.agg' (Y5 (f2_ (f1_ (.cons (.p _) p5))))) (.cons (Frz.agg' (Y5 (f2_ (f1_ (.cons (.nil _) (f2_ (.cons (.nil _) (.cons (.nil _) p1)))))))) .nil)) fun v20 h => ?_;cases h; exact (.p _)
 apply iU h <;> intro h
 ·refine cP h Qk (.cons (Frz.agg' (Y5 (f2_ (f1_ (.cons (.p _) p5))))) (.cons (Frz.agg' (Y5 (f2_ (f1_ (.cons (.nil _) (f2_ (.cons (.nil _) (.cons (.nil _) p1)))))))) .nil)) fun v23 h => ?_;cases h; exact (.p _)
 refine cP h Qk (.cons (Frz.agg' (Y5 (f2_ (f1_ (.cons (.p _) p5))))) (.cons (Frz.agg' (Y5 (f2_ (f1_ (.cons (.nil _) (f2_ (.cons (.nil _) (.cons (.nil _) p1)))))))) .nil)) fun v25 h => ?_;cases h; exact (.p _)
def Vj (_N : Nat) (code : Int) : Option Bool :=
 cond (Q7 .leq 0 code)
 (some (Q7 .leq code 5))
 (some false)
theorem Q5c {N} {code} {r} (h : Vj N code = some r) : pU 135 [.int .i64 code] (.bool r) := by
 refine Q0 Quk ?_;unfold Vj at h;rw [cX] at h;exact iB h
def V8 (N : Nat) (version : Int) (p : Q3) : Option Bool :=
 cond (Q7 .eql version 4)
 (cond (Q7 .gtr (wrap .i64 (((Q6 Q1.cells p.Props).length : Int) + ((Q6 Q1.cells p.Will.Props).length : Int))) 0)
 (some false)
 (cond (Q7 .eql p.Kind 2)
 ((Wu N p.Kind p.Code).bind fun v4 =>
 (Vj N p.Code).bind fun v6 =>
 cond v6
 (cond (Q7 .eql p.Code 0)
 (some true)
 (some (!p.Session)))
 (some false))
 (cond (Gp .eql p.Client [])
 (cond (!p.Clean)
 (some false)
 (cond p.HasPass
 (cond (!p.HasUser)
 (some false)
 (cond (Q7 .geq p.KeepAlive 0)
 (cond (Q7 .lss p.KeepAlive 65536)
 (cond (Q7 .geq p.Will.QoS 0)
 (some (Q7 .leq p.Will.QoS 2))
 (some false))
 (some false))
 (some false)))
 (cond (Q7 .geq p.KeepAlive 0)
 (cond (Q7 .lss p.KeepAlive 65536)
 (cond (Q7 .geq p.Will.QoS 0)
 (some (Q7 .leq p.Will.QoS 2))
 (some false))
 (some false))
 (some false))))
 (cond p.HasPass
 (cond (!p.HasUser)
 (some false)
 (cond (Q7 .geq p.KeepAlive 0)
 (cond (Q7 .lss p.KeepAlive 65536)
 (cond (Q7 .geq p.Will.QoS 0)
 (some (Q7 .leq p.Will.QoS 2))
 (some false))
 (some false))
 (some false)))
 (cond (Q7 .geq p.KeepAlive 0)
 (cond (Q7 .lss p.KeepAlive 65536)
 (cond (Q7 .geq p.Will.QoS 0)
 (some (Q7 .leq p.Will.QoS 2))
 (some false))
 (some false))
 (some false))))))
 (cond (Q7 .eql p.Kind 2)
 ((Wu N p.Kind p.Code).bind fun v29 =>
 cond v29
 (cond (Q7 .eql p.Code 0)
 (some true)
 (some (!p.Session)))
 (some false))
 (cond (Q7 .geq p.KeepAlive 0)
 (cond (Q7 .lss p.KeepAlive 65536)
 (cond (Q7 .geq p.Will.QoS 0)
 (some (Q7 .leq p.Will.QoS 2))
 (some false))
 (some false))
 (some false)))
theorem Q49 {N} {version} {p} {r} (h : V8 N version p = some r) : pU 90 [.int .i64 version, .agg (Q3.cells p)] (.bool r) := by
 refine Q0 k90 ?_;unfold V8 at h;rw [cX, cY] at h;refine ifO h (fun hc1 h => ?_) (fun hc1 h => ?_)
 ·refine iL h fun h => ?_;apply iU h <;> intro h
  ·refine cP h U1 p2 fun v4 h => ?_;refine ifT hc1 ?_;refine cP h Q5c p1 fun v6 h => ?_;refine iR h fun h => ?_;exact iB h
  refine ifT hc1 ?_;apply iU h <;> intro h
  ·refine iL h fun h => ?_;apply iU h <;> intro h
   ·refine iL h fun h => ?_;refine iR h fun h => ?_;refine iR h fun h => ?_;exact iB h
   refine iR h fun h => ?_;refine iR h fun h => ?_;exact iB h
  apply iU h <;> intro h
  ·refine iL h fun h => ?_;refine iR h fun h => ?_;refine iR h fun h => ?_;exact iB h
  refine iR h fun h => ?_;refine iR h fun h => ?_;exact iB h
 apply iU h <;> intro h
 ·refine cP h U1 p2 fun v29 h => ?_;refine ifF hc1 ?_;refine iR h fun h => ?_;exact iB h
 refine ifF hc1 ?_;refine iR h fun h => ?_;refine iR h fun h => ?_;exact iB h
def Vs (_N : Nat) (version : Int) : Option Bool :=
 cond (Q7 .eql version 4)
 (some true)
 (some (Q7 .eql version 5))
theorem Q5f {N} {version} {r} (h : Vs N version = some r) : pU 57 [.int .i64 version] (.bool r) := by
 refine Q0 k57 ?_;unfold Vs at h;rw [cX] at h;exact iB h
def Vh (N : Nat) (version : Int) (p : Q3) : Option Int :=
 (Vs N version).bind fun v1 =>
 cond (!v1)
 (some 2)
 ((Uj N p.Kind).bind fun v4 =>
 cond (!v4)
 (some 2)
 ((Vq N p).bind fun v7 =>
 cond (!v7)
 (some 2)
 ((V8 N version p).bind fun v10 =>
 cond (!v10)
 (some 2)
 ((Qx N p.Client).bind fun v13 =>
 cond (!v13)
 (some 6)
 ((Qx N p.User).bind fun v16 =>
 cond (!v16)
 (some 6)
 (cond p.HasWill
 ((Y8 N p.Will.Topic).bind fun v20 =>
 cond (!v20)
 (some 10)
 (cond (Q7 .gtr (p.Will.Payload.length : Int) 65535)
 (some 2)
 (cond (Q7 .gtr (p.Pass.length : Int) 65535)
 (some 2)
 ((Zw N p.Kind p.Props).bind fun v25 =>
 cond (Q7 .neq v25 0)
 (some v25)
 ((Zw N 16 p.Will.Props).bind fun v28 =>
 some v28)))))
 (cond (Q7 .gtr (p.Will.Payload.length : Int) 65535)
 (some 2)
 (cond (Q7 .gtr (p.Pass.length : Int) 65535)
 (some 2)
 ((Zw N p.Kind p.Props).bind fun v32 =>
 cond (Q7 .neq v32 0)
 (some v32)
 ((Zw N 16 p.Will.Props).bind fun v35 =>
 some v35))))))))))
theorem Q4s {N} {version} {p} {r} (h : Vh N version p = some r) : pU 51 [.int .i64 version, .agg (Q3.cells p)] (.int .i64 r) := by
 refine Q0 k51 ?_;unfold Vh at h;rw [cX] at h;refine cP h Q5f p1 fun v1 h => ?_;refine iL h fun h => ?_;refine cP h Q6l p1 fun v4 h => ?_;refine iL h fun h => ?_;refine cP h Q5t (.cons (Frz.agg' (Y5 (f2_ (f1_ (.cons (.p _) p5))))) .nil) fun v7 h => ?_;refine iL h fun h => ?_;refine cP h Q49 (.cons (.p _) (.cons (Frz.agg' (Y5 (f2_ (f1_ (.cons (.p _) p5))))) .nil)) fun v10 h => ?_;refine iL h fun h => ?_;refine cP h Zb p1 fun v13 h => ?_;refine iL h fun h => ?_;refine cP h Zb p1 fun v16 h => ?_;refine iL h fun h => ?_;apply iU h <;> intro h
 ·refine cP h Wp p1 fun v20 h => ?_;refine iL h fun h => ?_;refine iL h fun h => ?_;refine iL h fun h => ?_;refine cP h Zt p2 fun v25 h => ?_;refine iL h fun h => ?_;refine cP h Zt p2 fun v28 h => ?_;cases h; exact (.p _)
 refine iL h fun h => ?_;refine iL h fun h => ?_;refine cP h Zt p2 fun v32 h => ?_;refine iL h fun h => ?_;refine cP h Zt p2 fun v35 h => ?_;cases h; exact (.p _)
def Vd (N : Nat) (version : Int) (kind : Int) (l : List Q1) : Option (List UInt8) :=
 cond (Q7 .eql version 4)
 (some [])
 ((Ym N kind l).bind fun v2 =>
 some v2.1)
theorem Q1a {N} {version} {kind} {l} {r} (h : Vd N version kind l = some r) : pU 52 [.int .i64 version, .int .i64 kind, .slice 4 (Q6 Q1.cells l)] (.str r) := by
 refine Q0 k52 ?_;unfold Vd at h;rw [cX] at h;refine iL h fun h => ?_;refine cP h X6 p2 fun v2 h => ?_;cases h; exact (.p _)
def Y0 (N : Nat) (parts : List (List UInt8)) : Option (List UInt8) :=
 (Q3o N parts []).bind fun v1 =>
 some v1
theorem Zy {N} {parts} {r} (h : Y0 N parts = some r) : pU 53 [.slice 1 (Q6 cS parts)] (.str r) := by
 refine Q0 k53 ?_;unfold Y0 at h;refine cP h Q6p p2 fun v1 h => ?_;cases h; exact (.p _)
def Za (N : Nat) (p : Q3) : Nat → Int → Int → Option Int
 | 0, _, _ => none
 | n + 1, out9, s10 =>
  cond (Q7 .lss s10 5)
  ((idx ([(⟨p.Clean, 2⟩ : Gr), (⟨p.HasWill, 4⟩ : Gr), (⟨p.Will.Retain, 32⟩ : Gr), (⟨p.HasPass, 64⟩ : Gr), (⟨p.HasUser, 128⟩ : Gr)] : List Gr) s10).bind fun y12 =>
  cond y12.is
  (Za N p n (orI .i64 out9 y12.bit) (wrap .i64 (s10 + 1)))
  (Za N p n out9 (wrap .i64 (s10 + 1))))
  (some out9)
def Vv (N : Nat) (p : Q3) : Option Int :=
 cond (Q7 .neq p.Kind 1)
 (some 0)
 (Za N p N (Q1l .i64 (Gm .i64 p.Will.QoS 3) 3) 0)
theorem Q4w {N} {p} {r} (h : Vv N p = some r) : pU 55 [.agg (Q3.cells p)] (.int .i64 r) := by
 refine Q0 k55 ?_;unfold Vv at h;rw [cX] at h;refine iL h fun h => ?_;refine lpH (τ := Int × Int) (fun ⟨out9, s10⟩ => (a2 (.any :: iI out9 :: a16 (a8 (a2 (.slice 2 1 0 5 :: iI 5 :: iI s10 :: a8 (a2 (.any :: [])))))) : List AV)) (fun n0 ⟨out9, s10⟩ => Za N p n0 out9 s10) ((Q1l .i64 (Gm .i64 p.Will.QoS 3) 3), 0) h fun n0 ⟨out9, s10⟩ h => ?_
 first | rw [Za] at h | simp only [Za] at h
 rw [cX] at h;refine iR h fun h => ?_;obtain ⟨y12, hy13, h⟩ := Wq h;refine Wt (Vl hy13 sd) ?_
 refine Q0b (c := Gr.cells) (e := 2) (fun _ => rfl) hy13 (off := 0) (by decide) (by first | omega | (simp only [Gm, orI, Q7g, Xf, Q1l, Q3u]; omega)) ?_
 apply iU h <;> intro h
 ·show Exists _;exact ⟨(n0, (orI .i64 out9 y12.bit), (wrap .i64 (s10 + 1))), h, Lg _, (fun i => i), Vf⟩
 show Exists _;exact ⟨(n0, out9, (wrap .i64 (s10 + 1))), h, Lg _, (fun i => i), Vf⟩
def Zx (N : Nat) (s_0 : List UInt8) : Option (List UInt8) :=
 (W1 N s_0).bind fun v1 =>
 some v1.1
theorem Y1 {N} {s_0} {r} (h : Zx N s_0 = some r) : pU 56 [.str s_0] (.str r) := by
 refine Q0 k56 ?_;unfold Zx at h;refine cP h Ut p1 fun v1 h => ?_;cases h; exact (.p _)
def Ui (N : Nat) (version : Int) (p : Q3) : Option ((List UInt8) × Int) :=
 (Vh N version p).bind fun v1 =>
 cond (Q7 .neq v1 0)
 (some ([], v1))
 ((Vd N version p.Kind p.Props).bind fun v4 =>
 cond (Q7 .eql p.Kind 2)
 (cond p.Session
 ((Zk N (wrap .u64 p.Code) 1).bind fun v8 =>
 (Y0 N [[1], v8, v4]).bind fun v10 =>
 some (v10, 0))
 ((Zk N (wrap .u64 p.Code) 1).bind fun v12 =>
 (Y0 N [[0], v12, v4]).bind fun v14 =>
 some (v14, 0)))
 ((Zk N (wrap .u64 version) 1).bind fun v16 =>
 (Vv N p).bind fun v18 =>
 (Zk N (wrap .u64 v18) 1).bind fun v20 =>
 (Zk N (wrap .u64 p.KeepAlive) 2).bind fun v22 =>
 (Zx N p.Client).bind fun v24 =>
 (Y0 N [[0, 4, 77, 81, 84, 84], v16, v20, v22, v4, v24]).bind fun v26 =>
 cond p.HasWill
 ((Vd N version 16 p.Will.Props).bind fun v29 =>
 (Zx N p.Will.Topic).bind fun v31 =>
 (Zx N p.Will.Payload).bind fun v33 =>
 (Y0 N [v26, v29, v31, v33]).bind fun v35 =>
 cond p.HasUser
 ((Zx N p.User).bind fun v38 =>
 (Y0 N [v35, v38]).bind fun v40 =>
 cond p.HasPass
 ((Zx N p.Pass).bind fun v43 =>
 (Y0 N [v40, v43]).bind fun v45 =>
 some (v45, 0))
 (some (v40, 0)))
 (cond p.HasPass
 ((Zx N p.Pass).bind fun v48 =>
 (Y0 N [v35, v48]).bind fun v50 =>
 some (v50, 0))
 (some (v35, 0))))
 (cond p.HasUser
 ((Zx N p.User).bind fun v53 =>
 (Y0 N [v26, v53]).bind fun v55 =>
 cond p.HasPass
 ((Zx N p.Pass).bind fun v58 =>
 (Y0 N [v55, v58]).bind fun v60 =>
 some (v60, 0))
 (some (v55, 0)))
 (cond p.HasPass
 ((Zx N p.Pass).bind fun v63 =>
 (Y0 N [v26, v63]).bind fun v65 =>
 some (v65, 0))
 (some (v26, 0))))))
theorem Q5x {N} {version} {p} {r} (h : Ui N version p = some r) : pU 41 [.int .i64 version, .agg (Q3.cells p)] (.tuple [.str r.1, .int .i64 r.2]) := by
 refine Q0 k41 ?_;unfold Ui at h;rw [cX] at h;refine cP h Q4s (.cons (.p _) (.cons (Frz.agg' (Y5 (f2_ (f1_ (.cons (.p _) p5))))) .nil)) fun v1 h => ?_;refine iL2 h fun h => ?_;refine cP h Q1a p3 fun v4 h => ?_;apply iU h <;> intro h
 ·apply iU h <;> intro h
  ·refine cP h Z6 p2 fun v8 h => ?_;refine cK h Zy (.cons (frz_own (c := cS) (l := ([[1], v8, v4] : List (List UInt8))) (fun _ => rfl) rfl trivial sd) .nil) fun v10 h => ?_;obtain rfl := Qo h; exact u2
  refine cP h Z6 p2 fun v12 h => ?_;refine cK h Zy (.cons (frz_own (c := cS) (l := ([[0], v12, v4] : List (List UInt8))) (fun _ => rfl) rfl trivial sd) .nil) fun v14 h => ?_;obtain rfl := Qo h; exact u2
 refine Z1 ?_;refine cD h Z6 p2 fun v16 h => ?_;refine cD h Q4w (.cons (Frz.agg' (Y5 (f2_ (f1_ (.cons (.p _) p5))))) .nil) fun v18 h => ?_;refine cD h Z6 p2 fun v20 h => ?_;refine cD h Z6 p2 fun v22 h => ?_;refine cD h Y1 p1 fun v24 h => ?_;refine dL h Zy [1] (.cons (frz_own (c := cS) (l := ([[0, 4, 77, 81, 84, 84], v16, v20, v22, v4, v24] : List (List UInt8))) (fun _ => rfl) rfl (by simp) sd) .nil) fun v26 h => ?_;apply iU h <;> intro h
 ·refine Z1 ?_;refine cD h Q1a p3 fun v29 h => ?_;refine cD h Y1 p1 fun v31 h => ?_;refine cD h Y1 p1 fun v33 h => ?_;refine dL h Zy [2] (.cons (frz_own (c := cS) (l := ([v26, v29, v31, v33] : List (List UInt8))) (fun _ => rfl) rfl (by simp) sd) .nil) fun v35 h => ?_;apply iU h <;> intro h
  ·refine cP h Y1 p1 fun v38 h => ?_;refine cK h Zy (.cons (frz_own (c := cS) (l := ([v35, v38] : List (List UInt8))) (fun _ => rfl) rfl trivial sd) .nil) fun v40 h => ?_;refine iR2 h fun h => ?_;refine cP h Y1 p1 fun v43 h => ?_;refine cK h Zy (.cons (frz_own (c := cS) (l := ([v40, v43] : List (List UInt8))) (fun _ => rfl) rfl trivial sd) .nil) fun v45 h => ?_;obtain rfl := Qo h; exact u2
  refine iR2 h fun h => ?_;refine cP h Y1 p1 fun v48 h => ?_;refine cK h Zy (.cons (frz_own (c := cS) (l := ([v35, v48] : List (List UInt8))) (fun _ => rfl) rfl trivial sd) .nil) fun v50 h => ?_;obtain rfl := Qo h; exact u2
 apply iU h <;> intro h
 ·refine cP h Y1 p1 fun v53 h => ?_;refine cK h Zy (.cons (frz_own (c := cS) (l := ([v26, v53] : List (List UInt8))) (fun _ => rfl) rfl trivial sd) .nil) fun v55 h => ?_;refine iR2 h fun h => ?_;refine cP h Y1 p1 fun v58 h => ?_;refine cK h Zy (.cons (frz_own (c := cS) (l := ([v55, v58] : List (List UInt8))) (fun _ => rfl) rfl trivial sd) .nil) fun v60 h => ?_;obtain rfl := Qo h; exact u2
 refine iR2 h fun h => ?_;refine cP h Y1 p1 fun v63 h => ?_;refine cK h Zy (.cons (frz_own (c := cS) (l := ([v26, v63] : List (List UInt8))) (fun _ => rfl) rfl trivial sd) .nil) fun v65 h => ?_;obtain rfl := Qo h; exact u2
def Yk (N : Nat) (d : Qn) : Option ((List UInt8) × Int) :=
 (Ui N d.version d.p).bind fun v1 =>
 some (v1.1, v1.2)
theorem J7 {N} {d} {r} (h : Yk N d = some r) : pU 31 [.agg (Qn.cells d)] (.tuple [.str r.1, .int .i64 r.2]) := by
 refine Q0 k31 ?_;unfold Yk at h;refine cP h Q5x (.cons (.p _) (.cons (Frz.agg' (Y5 (f2_ (f1_ (.cons (.p _) p5))))) .nil)) fun v1 h => ?_;obtain rfl := Qo h; exact u2
theorem Q5p : pU 28 [] (.pmap [(.int .i64 1, .agg [.func (.func 31) [] [], .func (.func 32) [] []]), (.int .i64 2, .agg [.func (.func 31) [] [], .func (.func 32) [] []]), (.int .i64 3, .agg [.func (.func 39) [] [], .func (.func 40) [] []]), (.int .i64 4, .agg [.func (.func 33) [] [], .func (.func 34) [] []]), (.int .i64 5, .agg [.func (.func 33) [] [], .func (.func 34) [] []]), (.int .i64 6, .agg [.func (.func 33) [] [], .func (.func 34) [] []]), (.int .i64 7, .agg [.func (.func 33) [] [], .func (.func 34) [] []]), (.int .i64 8, .agg [.func (.func 35) [] [], .func (.func 36) [] []]), (.int .i64 9, .agg [.func (.func 35) [] [], .func (.func 36) [] []]), (.int .i64 10, .agg [.func (.func 35) [] [], .func (.func 36) [] []]), (.int .i64 11, .agg [.func (.func 35) [] [], .func (.func 36) [] []]), (.int .i64 12, .agg [.func (.func 37) [] [], .func (.func 38) [] []]), (.int .i64 13, .agg [.func (.func 37) [] [], .func (.func 38) [] []]), (.int .i64 14, .agg [.func (.func 37) [] [], .func (.func 38) [] []]), (.int .i64 15, .agg [.func (.func 37) [] [], .func (.func 38) [] []])]) := X8 Q31 (N := 2000) (d := 60) (by kernel_rfl)
def Vb (N : Nat) (version : Int) (p : Q3) (s6 : Bool) : Option ((List UInt8) × Int) :=
 cond s6
 (some ([], 2))
 (cond ((p.Kind : Int) == 1)
 ((Yk N (⟨version, p⟩ : Qn)).bind fun v10 =>
 cond (Q7 .neq v10.2 0)
 (some ([], v10.2))
 (cond (Q7 .gtr (v10.1.length : Int) 268435455)
 (some ([], 4))
 (some (v10.1, 0))))
 (cond ((p.Kind : Int) == 2)
 ((Yk N (⟨version, p⟩ : Qn)).bind fun v15 =>
 cond (Q7 .neq v15.2 0)
 (some ([], v15.2))
 (cond (Q7 .gtr (v15.1.length : Int) 268435455)
 (some ([], 4))
 (some (v15.1, 0))))
 (cond ((p.Kind : Int) == 3)
 ((Xg N (⟨version, p⟩ : Qn)).bind fun v20 =>
 cond (Q7 .neq v20.2 0)
 (some ([], v20.2))
 (cond (Q7 .gtr (v20.1.length : Int) 268435455)
 (some ([], 4))
 (some (v20.1, 0))))
 (cond ((p.Kind : Int) == 4)
 ((Yo N (⟨version, p⟩ : Qn)).bind fun v25 =>
 cond (Q7 .neq v25.2 0)
 (some ([], v25.2))
 (cond (Q7 .gtr (v25.1.length : Int) 268435455)
 (some ([], 4))
 (some (v25.1, 0))))
 (cond ((p.Kind : Int) == 5)
 ((Yo N (⟨version, p⟩ : Qn)).bind fun v30 =>
 cond (Q7 .neq v30.2 0)
 (some ([], v30.2))
 (cond (Q7 .gtr (v30.1.length : Int) 268435455)
 (some ([], 4))
 (some (v30.1, 0))))
 (cond ((p.Kind : Int) == 6)
 ((Yo N (⟨version, p⟩ : Qn)).bind fun v35 =>
 cond (Q7 .neq v35.2 0)
 (some ([], v35.2))
 (cond (Q7 .gtr (v35.1.length : Int) 268435455)
 (some ([], 4))
 (some (v35.1, 0))))
 (cond ((p.Kind : Int) == 7)
 ((Yo N (⟨version, p⟩ : Qn)).bind fun v40 =>
 cond (Q7 .neq v40.2 0)
 (some ([], v40.2))
 (cond (Q7 .gtr (v40.1.length : Int) 268435455)
 (some ([], 4))
 (some (v40.1, 0))))
 (cond ((p.Kind : Int) == 8)
 ((Z8 N (⟨version, p⟩ : Qn)).bind fun v45 =>
 cond (Q7 .neq v45.2 0)
 (some ([], v45.2))
 (cond (Q7 .gtr (v45.1.length : Int) 268435455)
 (some ([], 4))
 (some (v45.1, 0))))
 (cond ((p.Kind : Int) == 9)
 ((Z8 N (⟨version, p⟩ : Qn)).bind fun v50 =>
 cond (Q7 .neq v50.2 0)
 (some ([], v50.2))
 (cond (Q7 .gtr (v50.1.length : Int) 268435455)
 (some ([], 4))
 (some (v50.1, 0))))
 (cond ((p.Kind : Int) == 10)
 ((Z8 N (⟨version, p⟩ : Qn)).bind fun v55 =>
 cond (Q7 .neq v55.2 0)
 (some ([], v55.2))
 (cond (Q7 .gtr (v55.1.length : Int) 268435455)
 (some ([], 4))
 (some (v55.1, 0))))
 (cond ((p.Kind : Int) == 11)
 ((Z8 N (⟨version, p⟩ : Qn)).bind fun v60 =>
 cond (Q7 .neq v60.2 0)
 (some ([], v60.2))
 (cond (Q7 .gtr (v60.1.length : Int) 268435455)
 (some ([], 4))
 (some (v60.1, 0))))
 (cond ((p.Kind : Int) == 12)
 ((Zj N (⟨version, p⟩ : Qn)).bind fun v65 =>
 cond (Q7 .neq v65.2 0)
 (some ([], v65.2))
 (cond (Q7 .gtr (v65.1.length : Int) 268435455)
 (some ([], 4))
 (some (v65.1, 0))))
 (cond ((p.Kind : Int) == 13)
 ((Zj N (⟨version, p⟩ : Qn)).bind fun v70 =>
 cond (Q7 .neq v70.2 0)
 (some ([], v70.2))
 (cond (Q7 .gtr (v70.1.length : Int) 268435455)
 (some ([], 4))
 (some (v70.1, 0))))
 (cond ((p.Kind : Int) == 14)
 ((Zj N (⟨version, p⟩ : Qn)).bind fun v75 =>
 cond (Q7 .neq v75.2 0)
 (some ([], v75.2))
 (cond (Q7 .gtr (v75.1.length : Int) 268435455)
 (some ([], 4))
 (some (v75.1, 0))))
 (cond ((p.Kind : Int) == 15)
 (cond (Q7 .eql version 4)
 (some ([], 8))
 ((Zj N (⟨version, p⟩ : Qn)).bind fun v82 =>
 cond (Q7 .neq v82.2 0)
 (some ([], v82.2))
 (cond (Q7 .gtr (v82.1.length : Int) 268435455)
 (some ([], 4))
 (some (v82.1, 0)))))
 (some ([], 8)))))))))))))))))
def Q1o (N : Nat) (version : Int) (p : Q3) : Option ((List UInt8) × Int) :=
 cond (Q7 .neq version 4)
 (Vb N version p (Q7 .neq version 5))
 (Vb N version p false)
theorem Q9k {N} {version} {p} {r} (h : Q1o N version p = some r) : pU 22 [.int .i64 version, .agg (Q3.cells p)] (.tuple [.str r.1, .int .i64 r.2]) := by
 refine Q0 k22 ?_;unfold Q1o at h;rw [cX] at h;refine Z7 ?_;refine jrH (r := r) (σ := Bool) (fun s6 => (iI version :: .any :: .any :: .ptr 0 0 :: a8 (a2 (.any :: .p (.bool s6) :: a16 (a16 (a2 ([]))))) : List AV)) (fun s6 => Vb N version p s6) ?_ ?_
 ·apply iU h <;> intro h
  ·show Exists _;exact ⟨((Qn1 .neq version 5)), h, (fun i => i), Vf⟩
  show Exists _;exact ⟨(false), h, (fun i => i), Vf⟩
 rintro s6 h
 unfold Vb at h;rw [cX] at h;refine iL2 h fun h => ?_;refine Z1 ?_;refine Uz Q5p .nil ?_;refine Q01 h (fun hc9 h => ?_) (fun hc9 h => ?_)
 ·refine Z7 ?_;refine Z7 ?_;refine ifF (Qe0 hc9 (by decide)) ?_;refine cP h J7 (.cons (Frz.agg' (Y5 (f4_ (.cons (.p _) p5)))) .nil) fun v10 h => ?_;refine iL2 h fun h => ?_;exact iB2 h
 refine Q01 h (fun hc14 h => ?_) (fun hc14 h => ?_)
 ·refine Z7 ?_;refine Z7 ?_;refine ifF (Qe0 hc14 (by decide)) ?_;refine cP h J7 (.cons (Frz.agg' (Y5 (f4_ (.cons (.p _) p5)))) .nil) fun v15 h => ?_;refine iL2 h fun h => ?_;exact iB2 h
 refine Q01 h (fun hc19 h => ?_) (fun hc19 h => ?_)
 ·refine Z7 ?_;refine Z7 ?_;refine ifF (Qe0 hc19 (by decide)) ?_;refine cP h Q1v (.cons (Frz.agg' (Y5 (f4_ (.cons (.p _) p5)))) .nil) fun v20 h => ?_;refine iL2 h fun h => ?_;exact iB2 h
 refine Q01 h (fun hc24 h => ?_) (fun hc24 h => ?_)
 ·refine Z7 ?_;refine Z7 ?_;refine ifF (Qe0 hc24 (by decide)) ?_;refine cP h V1 (.cons (Frz.agg' (Y5 (f4_ (.cons (.p _) p5)))) .nil) fun v25 h => ?_;refine iL2 h fun h => ?_;exact iB2 h
 refine Q01 h (fun hc29 h => ?_) (fun hc29 h => ?_)
 ·refine Z7 ?_;refine Z7 ?_;refine ifF (Qe0 hc29 (by decide)) ?_;refine cP h V1 (.cons (Frz.agg' (Y5 (f4_ (.cons (.p _) p5)))) .nil) fun v30 h => ?_;refine iL2 h fun h => ?_;exact iB2 h
 refine Q01 h (fun hc34 h => ?_) (fun hc34 h => ?_)
 ·refine Z7 ?_;refine Z7 ?_;refine ifF (Qe0 hc34 (by decide)) ?_;refine cP h V1 (.cons (Frz.agg' (Y5 (f4_ (.cons (.p _) p5)))) .nil) fun v35 h => ?_;refine iL2 h fun h => ?_;exact iB2 h
 refine Q01 h (fun hc39 h => ?_) (fun hc39 h => ?_)
 ·refine Z7 ?_;refine Z7 ?_;refine ifF (Qe0 hc39 (by decide)) ?_;refine cP h V1 (.cons (Frz.agg' (Y5 (f4_ (.cons (.p _) p5)))) .nil) fun v40 h => ?_;refine iL2 h fun h => ?_;exact iB2 h
 refine Q01 h (fun hc44 h => ?_) (fun hc44 h => ?_)
 ·refine Z7 ?_;refine Z7 ?_;refine ifF (Qe0 hc44 (by decide)) ?_;refine cP h X3 (.cons (Frz.agg' (Y5 (f4_ (.cons (.p _) p5)))) .nil) fun v45 h => ?_;refine iL2 h fun h => ?_;exact iB2 h
 refine Q01 h (fun hc49 h => ?_) (fun hc49 h => ?_)
 ·refine Z7 ?_;refine Z7 ?_;refine ifF (Qe0 hc49 (by decide)) ?_;refine cP h X3 (.cons (Frz.agg' (Y5 (f4_ (.cons (.p _) p5)))) .nil) fun v50 h => ?_;refine iL2 h fun h => ?_;exact iB2 h
 refine Q01 h (fun hc54 h => ?_) (fun hc54 h => ?_)
 ·refine Z7 ?_;refine Z7 ?_;refine ifF (Qe0 hc54 (by decide)) ?_;refine cP h X3 (.cons (Frz.agg' (Y5 (f4_ (.cons (.p _) p5)))) .nil) fun v55 h => ?_;refine iL2 h fun h => ?_;exact iB2 h
 refine Q01 h (fun hc59 h => ?_) (fun hc59 h => ?_)
 ·refine Z7 ?_;refine Z7 ?_;refine ifF (Qe0 hc59 (by decide)) ?_;refine cP h X3 (.cons (Frz.agg' (Y5 (f4_ (.cons (.p _) p5)))) .nil) fun v60 h => ?_;refine iL2 h fun h => ?_;exact iB2 h
 refine Q01 h (fun hc64 h => ?_) (fun hc64 h => ?_)
 ·refine Z7 ?_;refine Z7 ?_;refine ifF (Qe0 hc64 (by decide)) ?_;refine cP h Xm (.cons (Frz.agg' (Y5 (f4_ (.cons (.p _) p5)))) .nil) fun v65 h => ?_;refine iL2 h fun h => ?_;exact iB2 h
 refine Q01 h (fun hc69 h => ?_) (fun hc69 h => ?_)
 ·refine Z7 ?_;refine Z7 ?_;refine ifF (Qe0 hc69 (by decide)) ?_;refine cP h Xm (.cons (Frz.agg' (Y5 (f4_ (.cons (.p _) p5)))) .nil) fun v70 h => ?_;refine iL2 h fun h => ?_;exact iB2 h
 refine Q01 h (fun hc74 h => ?_) (fun hc74 h => ?_)
 ·refine Z7 ?_;refine Z7 ?_;refine ifF (Qe0 hc74 (by decide)) ?_;refine cP h Xm (.cons (Frz.agg' (Y5 (f4_ (.cons (.p _) p5)))) .nil) fun v75 h => ?_;refine iL2 h fun h => ?_;exact iB2 h
 refine Q01 h (fun hc79 h => ?_) (fun hc79 h => ?_)
 ·refine Z7 ?_;refine Z7 ?_;refine ifT (Qe0 hc79 (by decide)) ?_;refine iL2 h fun h => ?_;refine cP h Xm (.cons (Frz.agg' (Y5 (f4_ (.cons (.p _) p5)))) .nil) fun v82 h => ?_;refine iL2 h fun h => ?_;exact iB2 h
 refine Qoo ?_;refine Z7 ?_;refine Z7 ?_;obtain rfl := Qo h; exact u2
def Ge (N : Nat) (version : Int) (p : Q3) : Option Int :=
 (Q1o N version p).bind fun v1 =>
 some v1.2
theorem Q2r {N} {version} {p} {r} (h : Ge N version p = some r) : pU 13 [.int .i64 version, .agg (Q3.cells p)] (.int .i64 r) := by
 refine Q0 k13 ?_;unfold Ge at h;refine cP h Q9k (.cons (.p _) (.cons (Frz.agg' (Y5 (f2_ (f1_ (.cons (.p _) p5))))) .nil)) fun v1 h => ?_;cases h; exact (.p _)
def Wd (_N : Nat) (proto : Int) (p : Q3) : Option Yn :=
 some (⟨proto, 2, [], [], 0, false, false, 0, [], 0, [], 0, p, (⟨0, (⟨false, 0, false, false, false, 0⟩ : Q3p), 0, 0, 0, false, 0, 0, 0, [], []⟩ : Qfx), (⟨0, 0, [], []⟩ : Vz)⟩ : Yn)
theorem J3 {N} {proto} {p} {r} (h : Wd N proto p = some r) : pU 14 [.int .i64 proto, .agg (Q3.cells p)] (.agg (Yn.cells r)) := by
 refine Q0 k14 ?_;unfold Wd at h;obtain rfl := Qo h; exact (Frz.agg' (f8_ (.cons (.nil _) (.cons (.p _) (.cons (.nil _) (Y5 (Y5 (f8_ (f4_ (f1_ (.cons (.nil _) .nil)))))))))))
def Xl (_N : Nat) (proto : Int) (p : Q3) : Option Yn :=
 some (⟨proto, 1, p.Topic, p.Payload, p.QoS, p.Retain, p.Dup, p.ID, p.Props, 0, [], 0, (⟨0, false, false, 0, 0, [], [], false, 0, [], false, [], false, [], false, (⟨[], [], 0, false, []⟩ : Xe), false, 0, [], [], []⟩ : Q3), (⟨0, (⟨false, 0, false, false, false, 0⟩ : Q3p), 0, 0, 0, false, 0, 0, 0, [], []⟩ : Qfx), (⟨0, 0, [], []⟩ : Vz)⟩ : Yn)
theorem U4 {N} {proto} {p} {r} (h : Xl N proto p = some r) : pU 15 [.int .i64 proto, .agg (Q3.cells p)] (.agg (Yn.cells r)) := by
 refine Q0 k15 ?_;unfold Xl at h;obtain rfl := Qo h; exact (Frz.agg' (f8_ (f2_ (.cons (.nil _) (Y5 (f4_ (.cons (.nil _) (f2_ (.cons (.nil _) (.cons (.nil _) (.cons (.nil _) (Y5 (f2_ (f1_ (.cons (.nil _) .nil)))))))))))))))
end
end
end Go.Av
