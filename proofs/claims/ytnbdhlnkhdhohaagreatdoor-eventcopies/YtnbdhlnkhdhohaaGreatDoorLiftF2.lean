/- Part of the proof of EventCopies: for every input the law returns true; no condition. -/
import Derived.Test.YtnbdhlnkhdhohaaGreatDoorLiftF1
namespace Go.Av
open Go.IntKind (wrap)
noncomputable section
open Go.Proofs
set_option maxRecDepth 100000
set_option maxHeartbeats 4000000
attribute [local irreducible] Vn Xj Q89 Qcy Qry Qrt Qh8
section
def Zd (N : Nat) (l : List (List UInt8)) : Nat → Int → Option Bool
 | 0, _ => none
 | n + 1, s36 =>
  cond (Q3 .lss s36 ((Q8 cS l).length : Int))
  ((idx l s36).bind fun y38 =>
  cond (Q4s .eql y38 [35])
  (cond (!(Q3 .eql (wrap .i64 (s36 + 1)) ((Q8 cS l).length : Int)))
  (some false)
  ((Q0s N y38).bind fun v42 =>
  cond (!v42)
  ((Zw N y38).bind fun v45 =>
  cond v45
  (some false)
  (Zd N l n (wrap .i64 (s36 + 1))))
  (Zd N l n (wrap .i64 (s36 + 1)))))
  ((Q0s N y38).bind fun v48 =>
  cond (!v48)
  ((Zw N y38).bind fun v51 =>
  cond v51
  (some false)
  (Zd N l n (wrap .i64 (s36 + 1))))
  (Zd N l n (wrap .i64 (s36 + 1)))))
  (some true)
def Q1u (N : Nat) (l : List (List UInt8)) : Option Bool :=
 Zd N l N 0
theorem Qdo {N} {l} {r} (h : Q1u N l = some r) : pU 282 [.slice 1 (Q8 cS l)] (.bool r) := by
 refine Q2 Z7w ?_;unfold Q1u at h;refine lpH (τ := Int) (fun s36 => (.p (.slice 1 (Q8 cS l)) :: a4 (.any :: .p (.slice 1 (Q8 cS l)) :: iI ((Q8 cS l).length : Int) :: iI s36 :: a16 (a8 (.any :: []))) : List AV)) (fun n0 s36 => Zd N l n0 s36) (0) h fun n0 s36 h => ?_
 first | rw [Zd] at h | simp only [Zd] at h
 rw [cX, cY] at h;refine iR h fun h => ?_;refine xR h fun y38 h => ?_;apply iU h <;> intro h
 ·refine iL h fun h => ?_;refine cP h Q95 p1 fun v42 h => ?_;apply iU h <;> intro h
  ·refine cP h Ut p2 fun v45 h => ?_;refine iL h fun h => ?_;show Exists _;exact ⟨(n0, (wrap .i64 (s36 + 1))), h, Le _, (fun i => i), Z6⟩
  show Exists _;exact ⟨(n0, (wrap .i64 (s36 + 1))), h, Le _, (fun i => i), Z6⟩
 refine cP h Q95 p1 fun v48 h => ?_;apply iU h <;> intro h
 ·refine cP h Ut p2 fun v51 h => ?_;refine iL h fun h => ?_;show Exists _;exact ⟨(n0, (wrap .i64 (s36 + 1))), h, Le _, (fun i => i), Z6⟩
 show Exists _;exact ⟨(n0, (wrap .i64 (s36 + 1))), h, Le _, (fun i => i), Z6⟩
def Zt (N : Nat) (s_0 : List UInt8) : Nat → Int → Nat → Option Int
 | 0, _, _ => none
 | n + 1, n5, pos6 =>
  cond (Nat.blt pos6 s_0.length)
  (Zt N s_0 n (wrap .i64 (n5 + 1)) (pos6 + (Qco s_0 pos6).2))
  (some n5)
def Wp (N : Nat) (s_0 : List UInt8) : Option Int :=
 Zt N s_0 N 0 0
theorem Q24 {N} {s_0} {r} (h : Wp N s_0 = some r) : pU 354 [.str s_0] (.int .i64 r) := by
 refine Q2 Z8t ?_;unfold Wp at h;refine lpA (τ := Int × Nat) (fun ⟨n5, _⟩ => (.any :: .any :: iI n5 :: .any :: .ptr 0 0 :: a4 (.any :: []) : List AV)) (fun ⟨_, pos6⟩ => (.strIter s_0 pos6 :: [] : List AObj)) (fun n0 ⟨n5, pos6⟩ => Zt N s_0 n0 n5 pos6) (0, 0) h fun n0 ⟨n5, pos6⟩ h => ?_
 first | rw [Zt] at h | simp only [Zt] at h
 refine iR h fun h => ?_;show Exists _;exact ⟨(n0, (wrap .i64 (n5 + 1)), (pos6 + (Qco s_0 pos6).2)), h, Le _, (fun i => i), Z6⟩
def Y8 (_N : Nat) (s_0 : List UInt8) : Option (Int × Int) :=
 cond (Q3 .lss (s_0.length : Int) 1)
 (some (65533, 0))
 ((idx s_0 0).bind fun b2 =>
 (idx gtab0 (b2.toNat : Int)).bind fun y4 =>
 cond (Q3 .geq y4 240)
 ((idx s_0 0).bind fun b7 =>
 some ((orI .i32 (W8 .i32 (wrap .i32 (b7.toNat : Int)) (Q4m .i32 (Gy .i32 (wrap .i32 y4) 31) 31)) (Jq .i32 65533 (Q4m .i32 (Gy .i32 (wrap .i32 y4) 31) 31))), 1))
 ((idx gtab1 (Q4m .u8 y4 4)).bind fun y9 =>
 cond (Q3 .lss (s_0.length : Int) (wrap .i64 (Jq .u8 y4 7)))
 (some (65533, 1))
 ((idx s_0 1).bind fun b12 =>
 cond (Q3 .lss (b12.toNat : Int) y9.1)
 (some (65533, 1))
 (cond (Q3 .lss y9.2 (b12.toNat : Int))
 (some (65533, 1))
 (cond (Q3 .leq (wrap .i64 (Jq .u8 y4 7)) 2)
 (some ((orI .i32 (Gy .i32 (wrap .i32 (Jq .u8 (b2.toNat : Int) 31)) 6) (wrap .i32 (Jq .u8 (b12.toNat : Int) 63))), 2))
 ((idx s_0 2).bind fun b17 =>
 cond (Q3 .lss (b17.toNat : Int) 128)
 (some (65533, 1))
 (cond (Q3 .lss 191 (b17.toNat : Int))
 (some (65533, 1))
 (cond (Q3 .leq (wrap .i64 (Jq .u8 y4 7)) 3)
 (some ((orI .i32 (orI .i32 (Gy .i32 (wrap .i32 (Jq .u8 (b2.toNat : Int) 15)) 12) (Gy .i32 (wrap .i32 (Jq .u8 (b12.toNat : Int) 63)) 6)) (wrap .i32 (Jq .u8 (b17.toNat : Int) 63))), 3))
 ((idx s_0 3).bind fun b22 =>
 cond (Q3 .lss (b22.toNat : Int) 128)
 (some (65533, 1))
 (cond (Q3 .lss 191 (b22.toNat : Int))
 (some (65533, 1))
 (some ((orI .i32 (orI .i32 (orI .i32 (Gy .i32 (wrap .i32 (Jq .u8 (b2.toNat : Int) 7)) 18) (Gy .i32 (wrap .i32 (Jq .u8 (b12.toNat : Int) 63)) 12)) (Gy .i32 (wrap .i32 (Jq .u8 (b17.toNat : Int) 63)) 6)) (wrap .i32 (Jq .u8 (b22.toNat : Int) 63))), 4))))))))))))
theorem V9 {N} {s_0} {r} (h : Y8 N s_0 = some r) : pU 358 [.str s_0] (.tuple [.int .i32 r.1, .int .i64 r.2]) := by
 refine Q2 Ze3 ?_;unfold Y8 at h;rw [cX] at h;refine iL2 h fun h => ?_;refine xB h fun b2 h => ?_;obtain ⟨y4, hy5, h⟩ := U1 h;refine Js (Uz hy5 Qlk) ?_
 refine Qis (c := (cI .u8)) (e := 1) (fun _ => rfl) Qpn hy5 (off := 0) (by decide) (by first | omega | (simp only [Jq, orI, Qc7, W8, Gy, Q4m]; omega)) ?_
 apply iU h <;> intro h
 ·refine xB h fun b7 h => ?_;obtain rfl := Qd h; exact u2
 obtain ⟨y9, hy10, h⟩ := U1 h;refine Js (Uz hy10 Qlx) ?_
 refine Qis (c := cUU) (e := 2) (fun _ => rfl) Qp8 hy10 (off := 0) (by decide) (by first | omega | (simp only [Jq, orI, Qc7, W8, Gy, Q4m]; omega)) ?_
 refine iL2 h fun h => ?_;refine xB h fun b12 h => ?_;refine iL2 h fun h => ?_;refine iL2 h fun h => ?_;refine iL2 h fun h => ?_;refine xB h fun b17 h => ?_;refine iL2 h fun h => ?_;refine iL2 h fun h => ?_;refine iL2 h fun h => ?_;refine xB h fun b22 h => ?_;refine iL2 h fun h => ?_;exact iB2 h
def Wi (N : Nat) (s_0 : List UInt8) : Option (Int × Int) :=
 cond (Q4s .neq s_0 [])
 ((idx s_0 0).bind fun b2 =>
 cond (Q3 .lss (b2.toNat : Int) 128)
 ((idx s_0 0).bind fun b5 =>
 some ((wrap .i32 (b5.toNat : Int)), 1))
 ((Y8 N s_0).bind fun v7 =>
 some (v7.1, v7.2)))
 ((Y8 N s_0).bind fun v9 =>
 some (v9.1, v9.2))
theorem Q1r {N} {s_0} {r} (h : Wi N s_0 = some r) : pU 355 [.str s_0] (.tuple [.int .i32 r.1, .int .i64 r.2]) := by
 refine Q2 Zfo ?_;unfold Wi at h;rw [cX, cY] at h;apply iU h <;> intro h
 ·refine xB h fun b2 h => ?_;apply iU h <;> intro h
  ·refine xB h fun b5 h => ?_;obtain rfl := Qd h; exact u2
  refine cP h V9 p1 fun v7 h => ?_;obtain rfl := Qd h; exact u2
 refine cP h V9 p1 fun v9 h => ?_;obtain rfl := Qd h; exact u2
def U2 (N : Nat) (n5 : Int) : Nat → (List UInt8) → Int → (List (List UInt8)) → Option (List (List UInt8))
 | 0, _, _, _ => none
 | n + 1, s28, i29, l30 =>
  cond (Q3 .lss i29 (wrap .i64 (n5 - 1)))
  ((Wi N s28).bind fun v32 =>
  cond (decide (0 ≤ v32.2)) (cond (Nat.ble 0 v32.2.toNat && Nat.ble v32.2.toNat s28.length) ((idx (l30 : List (List UInt8)) i29).bind fun y36 =>
  cond (Nat.ble v32.2.toNat s28.length && Nat.ble s28.length s28.length) (U2 N n5 n ((s28.take s28.length).drop v32.2.toNat) (wrap .i64 (i29 + 1)) ((l30 : List (List UInt8)).set (Int.toNat i29) ((s28.take v32.2.toNat).drop 0))) none) none) none)
  (cond (Q3 .gtr n5 0)
  ((idx (l30 : List (List UInt8)) (wrap .i64 (n5 - 1))).bind fun y40 =>
  some ((l30 : List (List UInt8)).set (Int.toNat (wrap .i64 (n5 - 1))) s28))
  (some l30))
def U6 (N : Nat) (s_0 : List UInt8) (n5 : Int) : Option (List (List UInt8)) :=
 cond (decide (0 ≤ n5) && decide (n5 ≤ n5) && decide (n5 * 16 ≤ 1099511627776)) (U2 N n5 N s_0 0 (List.replicate (n5 : Int).toNat ([] : (List UInt8)))) none
def Q3j (N : Nat) (s_0 : List UInt8) (n_1 : Int) : Option (List (List UInt8)) :=
 (Wp N s_0).bind fun v1 =>
 cond (Q3 .lss n_1 0)
 (U6 N s_0 v1)
 (cond (Q3 .gtr n_1 v1)
 (U6 N s_0 v1)
 (U6 N s_0 n_1))
theorem Q9t {N} {s_0} {n_1} {r} (h : Q3j N s_0 n_1 = some r) : pU 347 [.str s_0, .int .i64 n_1] (.slice 1 (Q8 cS r)) := by
 refine Q2 Z9r ?_;unfold Q3j at h;rw [cX] at h;refine cP h Q24 p1 fun v1 h => ?_;refine jrH (r := r) (σ := Int) (fun n5 => (iS s_0 :: iI n5 :: a16 (a16 (a16 ([]))) : List AV)) (fun n5 => U6 N s_0 n5) ?_ ?_
 ·apply iU h <;> intro h
  ·show Exists _;exact ⟨(v1), h, (fun i => i), Z6⟩
  apply iU h <;> intro h
  ·show Exists _;exact ⟨(v1), h, (fun i => i), Z6⟩
  show Exists _;exact ⟨(n_1), h, (fun i => i), Z6⟩
 rintro n5 h
 unfold U6 at h;refine kU h fun h => ?_;refine Qzz (c := cS) ([] : (List UInt8)) rfl ?_;refine lpC (τ := (List UInt8) × Int × (List (List UInt8))) (fun ⟨s28, i29, l30⟩ => (iS s28 :: iI n5 :: a4 (.slice 1 1 0 l30.length :: iI i29 :: a16 (a16 (a8 (a2 ([]))))) : List AV)) (fun ⟨_, _, l30⟩ => (.dead :: .cells (Qu cS l30) :: [] : List AObj)) (fun n1 ⟨s28, i29, l30⟩ => U2 N n5 n1 s28 i29 l30) (s_0, 0, (List.replicate (n5 : Int).toNat ([] : (List UInt8)))) h (rho [0, 0]) Z6 fun n1 ⟨s28, i29, l30⟩ h => ?_
 first | rw [U2] at h | simp only [U2] at h
 rw [cX] at h;apply iU h <;> intro h
 ·refine cP h Q1r p1 fun v32 h => ?_;obtain ⟨hk34, h⟩ := Q4u h;refine Js hk34 ?_;refine kU h fun h => ?_;obtain ⟨y36, hy37, h⟩ := U1 h;refine Js (Uz hy37 sd) ?_;refine Js (Jb (c := cS) (e := 1) (fun _ => rfl) hy37 (off := 0) (by omega) rfl (by decide)) ?_
  refine Jc (c := cS) (e := 1) (fun _ => rfl) hy37 ((s28.take v32.2.toNat).drop 0) (off := 0) (by first | omega | (simp only [Jq, orI, Qc7, W8, Gy, Q4m]; omega)) rfl (by simp) ?_
  refine Js hk34 ?_;refine kU h fun h => ?_;show Exists _;exact ⟨(n1, ((s28.take s28.length).drop v32.2.toNat), (wrap .i64 (i29 + 1)), ((l30 : List (List UInt8)).set (Int.toNat i29) ((s28.take v32.2.toNat).drop 0))), h, Le _, (fun i => i), Z6⟩
 apply iU h <;> intro h
 ·obtain ⟨y40, hy41, h⟩ := U1 h;refine Js (Uz hy41 sd) ?_;refine Js (Jb (c := cS) (e := 1) (fun _ => rfl) hy41 (off := 0) (by omega) rfl (by decide)) ?_
  refine Jc (c := cS) (e := 1) (fun _ => rfl) hy41 s28 (off := 0) (by first | omega | (simp only [Jq, orI, Qc7, W8, Gy, Q4m]; omega)) rfl (by simp) ?_
  obtain rfl := Qd h; exact (frz_own (c := cS) (l := (((l30 : List (List UInt8)).set (Int.toNat (wrap .i64 (n5 - 1))) s28) : List (List UInt8))) (fun _ => rfl) rfl trivial sd)
 obtain rfl := Qd h; exact (frz_own (c := cS) (l := (l30 : List (List UInt8))) (fun _ => rfl) rfl trivial sd)
def W3 (N : Nat) (s_0 : List UInt8) : Nat → (List UInt8) → Int → (List (List UInt8)) → Option (List (List UInt8))
 | 0, _, _, _ => none
 | n + 1, s36, i37, l38 =>
  cond (Q3 .lss i37 (wrap .i64 ((ifB (decide ((wrap .i64 ((s_0.length : Int) + 1)) < (wrap .i64 ((Qcp s_0 (UInt8.ofNat (Int.toNat 47)) 0 : Int) + 1)))) (wrap .i64 ((s_0.length : Int) + 1)) (wrap .i64 ((Qcp s_0 (UInt8.ofNat (Int.toNat 47)) 0 : Int) + 1))) - 1)))
  (cond (Q4s .eql [47] s36)
  ((idx (l38 : List (List UInt8)) i37).bind fun y41 =>
  cond (Nat.ble 1 s36.length && Nat.ble s36.length s36.length) (W3 N s_0 n ((s36.take s36.length).drop 1) (wrap .i64 (i37 + 1)) ((l38 : List (List UInt8)).set (Int.toNat i37) ((s36.take 0).drop 0))) none)
  ((Qt N s36 47).bind fun v44 =>
  cond (Q3 .lss v44 0)
  ((idx (l38 : List (List UInt8)) i37).bind fun y47 =>
  cond (decide (0 ≤ (wrap .i64 (i37 + 1)))) (cond (Nat.ble 0 ((wrap .i64 (i37 + 1)).toNat) && Nat.ble ((wrap .i64 (i37 + 1)).toNat) l38.length) (some ((((l38 : List (List UInt8)).set (Int.toNat i37) s36) : List (List UInt8)).take ((wrap .i64 (i37 + 1)).toNat))) none) none)
  (cond (decide (0 ≤ (wrap .i64 (v44 + 0)))) (cond (Nat.ble 0 ((wrap .i64 (v44 + 0)).toNat) && Nat.ble ((wrap .i64 (v44 + 0)).toNat) s36.length) ((idx (l38 : List (List UInt8)) i37).bind fun y53 =>
  cond (decide (0 ≤ (wrap .i64 (v44 + 1)))) (cond (Nat.ble (wrap .i64 (v44 + 1)).toNat s36.length && Nat.ble s36.length s36.length) (W3 N s_0 n ((s36.take s36.length).drop ((wrap .i64 (v44 + 1)).toNat)) (wrap .i64 (i37 + 1)) ((l38 : List (List UInt8)).set (Int.toNat i37) ((s36.take ((wrap .i64 (v44 + 0)).toNat)).drop 0))) none) none) none) none)))
  ((idx (l38 : List (List UInt8)) i37).bind fun y57 =>
  cond (decide (0 ≤ (wrap .i64 (i37 + 1)))) (cond (Nat.ble 0 ((wrap .i64 (i37 + 1)).toNat) && Nat.ble ((wrap .i64 (i37 + 1)).toNat) l38.length) (some ((((l38 : List (List UInt8)).set (Int.toNat i37) s36) : List (List UInt8)).take ((wrap .i64 (i37 + 1)).toNat))) none) none)
def Q1t (N : Nat) (s_0 : List UInt8) : Option (List (List UInt8)) :=
 cond (Q4s .eql [47] [])
 ((Q3j N s_0 (-1)).bind fun v2 =>
 some v2)
 (cond (decide (0 ≤ (ifB (decide ((wrap .i64 ((s_0.length : Int) + 1)) < (wrap .i64 ((Qcp s_0 (UInt8.ofNat (Int.toNat 47)) 0 : Int) + 1)))) (wrap .i64 ((s_0.length : Int) + 1)) (wrap .i64 ((Qcp s_0 (UInt8.ofNat (Int.toNat 47)) 0 : Int) + 1)))) && decide ((ifB (decide ((wrap .i64 ((s_0.length : Int) + 1)) < (wrap .i64 ((Qcp s_0 (UInt8.ofNat (Int.toNat 47)) 0 : Int) + 1)))) (wrap .i64 ((s_0.length : Int) + 1)) (wrap .i64 ((Qcp s_0 (UInt8.ofNat (Int.toNat 47)) 0 : Int) + 1))) ≤ (ifB (decide ((wrap .i64 ((s_0.length : Int) + 1)) < (wrap .i64 ((Qcp s_0 (UInt8.ofNat (Int.toNat 47)) 0 : Int) + 1)))) (wrap .i64 ((s_0.length : Int) + 1)) (wrap .i64 ((Qcp s_0 (UInt8.ofNat (Int.toNat 47)) 0 : Int) + 1)))) && decide ((ifB (decide ((wrap .i64 ((s_0.length : Int) + 1)) < (wrap .i64 ((Qcp s_0 (UInt8.ofNat (Int.toNat 47)) 0 : Int) + 1)))) (wrap .i64 ((s_0.length : Int) + 1)) (wrap .i64 ((Qcp s_0 (UInt8.ofNat (Int.toNat 47)) 0 : Int) + 1))) * 16 ≤ 1099511627776)) (W3 N s_0 N s_0 0 (List.replicate ((ifB (decide ((wrap .i64 ((s_0.length : Int) + 1)) < (wrap .i64 ((Qcp s_0 (UInt8.ofNat (Int.toNat 47)) 0 : Int) + 1)))) (wrap .i64 ((s_0.length : Int) + 1)) (wrap .i64 ((Qcp s_0 (UInt8.ofNat (Int.toNat 47)) 0 : Int) + 1))) : Int).toNat ([] : (List UInt8)))) none)
theorem Qdh {N} {s_0} {r} (h : Q1t N s_0 = some r) : pU 283 [.str s_0] (.slice 1 (Q8 cS r)) := by
 refine Q2 Zei ?_;unfold Q1t at h;rw [cY] at h;refine Qi Zcj ?_;refine Qi Zb4 ?_;refine dF ?_;apply iU h <;> intro h
 ·refine cP h Q9t p2 fun v2 h => ?_;cases h; exact (.p _)
 refine dT ?_;refine Qi Zfc ?_;refine dF ?_;refine dT ?_;refine kU h fun h => ?_;refine Qzz (c := cS) ([] : (List UInt8)) rfl ?_;refine lpC (τ := (List UInt8) × Int × (List (List UInt8))) (fun ⟨s36, i37, l38⟩ => (iS s36 :: iS [47] :: iI 0 :: .p (.int .i64 (wrap .i64 ((ifB (decide ((wrap .i64 ((s_0.length : Int) + 1)) < (wrap .i64 ((Qcp s_0 (UInt8.ofNat (Int.toNat 47)) 0 : Int) + 1)))) (wrap .i64 ((s_0.length : Int) + 1)) (wrap .i64 ((Qcp s_0 (UInt8.ofNat (Int.toNat 47)) 0 : Int) + 1))) - 1))) :: a4 (.any :: .slice 1 1 0 l38.length :: iI i37 :: a16 (a16 (a16 (a4 (a2 (.any :: [])))))) : List AV)) (fun ⟨_, _, l38⟩ => (.dead :: .cells (Qu cS l38) :: [] : List AObj)) (fun n0 ⟨s36, i37, l38⟩ => W3 N s_0 n0 s36 i37 l38) (s_0, 0, (List.replicate ((ifB (decide ((wrap .i64 ((s_0.length : Int) + 1)) < (wrap .i64 ((Qcp s_0 (UInt8.ofNat (Int.toNat 47)) 0 : Int) + 1)))) (wrap .i64 ((s_0.length : Int) + 1)) (wrap .i64 ((Qcp s_0 (UInt8.ofNat (Int.toNat 47)) 0 : Int) + 1))) : Int).toNat ([] : (List UInt8)))) h (rho [0, 0]) Z6 fun n0 ⟨s36, i37, l38⟩ h => ?_
 first | rw [W3] at h | simp only [W3] at h
 rw [cX, cY] at h;apply iU h <;> intro h
 ·refine Qi Zdg ?_;refine Qi Z4g ?_;refine dF ?_;apply iU h <;> intro h
  ·refine dF ?_;obtain ⟨y41, hy42, h⟩ := U1 h;refine Js (Uz hy42 sd) ?_;refine Js (Jb (c := cS) (e := 1) (fun _ => rfl) hy42 (off := 0) (by omega) rfl (by decide)) ?_
   refine Jc (c := cS) (e := 1) (fun _ => rfl) hy42 ((s36.take 0).drop 0) (off := 0) (by first | omega | (simp only [Jq, orI, Qc7, W8, Gy, Q4m]; omega)) rfl (by simp) ?_
   refine kU h fun h => ?_;show Exists _;exact ⟨(n0, ((s36.take s36.length).drop 1), (wrap .i64 (i37 + 1)), ((l38 : List (List UInt8)).set (Int.toNat i37) ((s36.take 0).drop 0))), h, Le _, (fun i => i), Z6⟩
  refine dT ?_;refine cP h Xy p2 fun v44 h => ?_;apply iU h <;> intro h
  ·obtain ⟨y47, hy48, h⟩ := U1 h;refine Js (Uz hy48 sd) ?_;refine Js (Jb (c := cS) (e := 1) (fun _ => rfl) hy48 (off := 0) (by omega) rfl (by decide)) ?_
   refine Jc (c := cS) (e := 1) (fun _ => rfl) hy48 s36 (off := 0) (by first | omega | (simp only [Jq, orI, Qc7, W8, Gy, Q4m]; omega)) rfl (by simp) ?_
   refine kU h fun h => ?_;obtain ⟨hk50, h⟩ := Q4u h;refine Js hk50 ?_;obtain rfl := Qd h; exact (Qps (c := cS) (l := (((l38 : List (List UInt8)).set (Int.toNat i37) s36) : List (List UInt8))) (fun _ => rfl) rfl trivial (by have e : l38.length = (((l38 : List (List UInt8)).set (Int.toNat i37) s36) : List (List UInt8)).length := sd; simp only [La, Lk] at hk50; omega))
  refine kU h fun h => ?_;refine kU h fun h => ?_;obtain ⟨y53, hy54, h⟩ := U1 h;refine Js (Uz hy54 sd) ?_;refine Js (Jb (c := cS) (e := 1) (fun _ => rfl) hy54 (off := 0) (by omega) rfl (by decide)) ?_
  refine Jc (c := cS) (e := 1) (fun _ => rfl) hy54 ((s36.take ((wrap .i64 (v44 + 0)).toNat)).drop 0) (off := 0) (by first | omega | (simp only [Jq, orI, Qc7, W8, Gy, Q4m]; omega)) rfl (by simp) ?_
  refine kU h fun h => ?_;refine kU h fun h => ?_;show Exists _;exact ⟨(n0, ((s36.take s36.length).drop ((wrap .i64 (v44 + 1)).toNat)), (wrap .i64 (i37 + 1)), ((l38 : List (List UInt8)).set (Int.toNat i37) ((s36.take ((wrap .i64 (v44 + 0)).toNat)).drop 0))), h, Le _, (fun i => i), Z6⟩
 obtain ⟨y57, hy58, h⟩ := U1 h;refine Js (Uz hy58 sd) ?_;refine Js (Jb (c := cS) (e := 1) (fun _ => rfl) hy58 (off := 0) (by omega) rfl (by decide)) ?_
 refine Jc (c := cS) (e := 1) (fun _ => rfl) hy58 s36 (off := 0) (by first | omega | (simp only [Jq, orI, Qc7, W8, Gy, Q4m]; omega)) rfl (by simp) ?_
 refine kU h fun h => ?_;obtain ⟨hk60, h⟩ := Q4u h;refine Js hk60 ?_;obtain rfl := Qd h; exact (Qps (c := cS) (l := (((l38 : List (List UInt8)).set (Int.toNat i37) s36) : List (List UInt8))) (fun _ => rfl) rfl trivial (by have e : l38.length = (((l38 : List (List UInt8)).set (Int.toNat i37) s36) : List (List UInt8)).length := sd; simp only [La, Lk] at hk60; omega))
def Xr (N : Nat) (s_0 : List UInt8) : Option Bool :=
 (Q49 N s_0).bind fun v1 =>
 cond v1
 ((Q1t N s_0).bind fun v4 =>
 (Q1u N v4).bind fun v6 =>
 some v6)
 (some false)
theorem G0 {N} {s_0} {r} (h : Xr N s_0 = some r) : pU 225 [.str s_0] (.bool r) := by
 refine Q2 Z80 ?_;unfold Xr at h;refine cP h Q90 p1 fun v1 h => ?_;refine iR h fun h => ?_;refine cP h Qdh p1 fun v4 h => ?_;refine cP h Qdo p1 fun v6 h => ?_;cases h; exact (.p _)
def Q0q (N : Nat) (m : Q1f) : Option Int :=
 cond (Q3 .eql m.Type' 4)
 (cond (Q4s .neq m.Name [])
 (cond (Q3 .leq (m.Name.length : Int) 23)
 ((Z5 N m.Name).bind fun v4 =>
 cond v4
 (some 0)
 (some 6))
 (some 6))
 (some 6))
 (cond (Q3 .eql m.Type' 22)
 (cond (Q3 .leq (m.Name.length : Int) 23)
 ((Z5 N m.Name).bind fun v9 =>
 cond v9
 (some 0)
 (some 6))
 (some 6))
 (cond (Q3 .eql m.Type' 10)
 ((Zf N m.Name).bind fun v13 =>
 cond v13
 (some 0)
 (some 10))
 (cond (Q3 .eql m.Type' 7)
 (cond (Q4s .eql m.Name [])
 (some 0)
 ((Zf N m.Name).bind fun v18 =>
 cond v18
 (some 0)
 (some 10)))
 (cond (Q3 .eql m.Type' 26)
 (cond (Q4s .eql m.Name [])
 (some 0)
 ((Zf N m.Name).bind fun v23 =>
 cond v23
 (some 0)
 (some 10)))
 (cond (Q3 .eql m.Type' 18)
 (cond (Q3 .neq m.Flags.Type' 0)
 (some 0)
 ((Xr N m.Name).bind fun v28 =>
 cond v28
 (some 0)
 (some 10)))
 (cond (Q3 .eql m.Type' 20)
 (cond (Q3 .neq m.Flags.Type' 0)
 (some 0)
 ((Xr N m.Name).bind fun v33 =>
 cond v33
 (some 0)
 (some 10)))
 (cond (Q3 .eql m.Type' 2)
 (cond (Q3 .leq (m.Name.length : Int) 16)
 (some 0)
 (some 2))
 (some 0))))))))
theorem Q5i {N} {m} {r} (h : Q0q N m = some r) : pU 173 [.agg (Q1f.cells m)] (.int .i64 r) := by
 refine Q2 Z9x ?_;unfold Q0q at h;rw [cX, cY] at h;apply iU h <;> intro h
 ·refine iR h fun h => ?_;refine iR h fun h => ?_;refine cP h Zq p1 fun v4 h => ?_;exact iB h
 apply iU h <;> intro h
 ·refine iR h fun h => ?_;refine cP h Zq p1 fun v9 h => ?_;exact iB h
 apply iU h <;> intro h
 ·refine cP h Ym p1 fun v13 h => ?_;exact iB h
 refine ifO h (fun hc16 h => ?_) (fun hc16 h => ?_)
 ·refine ifT hc16 ?_;refine iL h fun h => ?_;refine cP h Ym p1 fun v18 h => ?_;exact iB h
 apply iU h <;> intro h
 ·refine iL h fun h => ?_;refine cP h Ym p1 fun v23 h => ?_;exact iB h
 refine ifO h (fun hc26 h => ?_) (fun hc26 h => ?_)
 ·refine ifT hc26 ?_;refine iL h fun h => ?_;refine cP h G0 p1 fun v28 h => ?_;exact iB h
 apply iU h <;> intro h
 ·refine iL h fun h => ?_;refine cP h G0 p1 fun v33 h => ?_;exact iB h
 refine iR h fun h => ?_;exact iB h
def Vd (N : Nat) (kind : Int) (rest : Int) : Option ((List UInt8) × Int) :=
 (Jp N kind).bind fun v1 =>
 cond (!v1)
 (some ([], 8))
 (cond (Q3 .lss rest 0)
 (some ([], 2))
 (cond (Q3 .gtr rest 65531)
 (some ([], 4))
 (cond (Q3 .leq (wrap .i64 (rest + 2)) 255)
 ((Qo N (wrap .u64 (wrap .i64 (rest + 2))) 1).bind fun v7 =>
 (Qo N (wrap .u64 kind) 1).bind fun v9 =>
 cond (Nat.ble (v7.length + v9.length) 4611686018427387904) (some ((v7 ++ v9), 0)) none)
 ((Qo N 1 1).bind fun v12 =>
 (Qo N (wrap .u64 (wrap .i64 (rest + 4))) 2).bind fun v14 =>
 cond (Nat.ble (v12.length + v14.length) 4611686018427387904) ((Qo N (wrap .u64 kind) 1).bind fun v17 =>
 cond (Nat.ble ((v12 ++ v14).length + v17.length) 4611686018427387904) (some (((v12 ++ v14) ++ v17), 0)) none) none))))
theorem Q16 {N} {kind} {rest} {r} (h : Vd N kind rest = some r) : pU 135 [.int .i64 kind, .int .i64 rest] (.tuple [.str r.1, .int .i64 r.2]) := by
 refine Q2 Z7c ?_;unfold Vd at h;rw [cX] at h;refine cP h Q71 p1 fun v1 h => ?_;refine iL2 h fun h => ?_;refine iL2 h fun h => ?_;refine iL2 h fun h => ?_;apply iU h <;> intro h
 ·refine cP h Qh p2 fun v7 h => ?_;refine cP h Qh p2 fun v9 h => ?_;refine kU h fun h => ?_;obtain rfl := Qd h; exact u2
 refine cP h Qh p2 fun v12 h => ?_;refine cP h Qh p2 fun v14 h => ?_;refine kU h fun h => ?_;refine cP h Qh p2 fun v17 h => ?_;refine kU h fun h => ?_;obtain rfl := Qd h; exact u2
def Q3b (N : Nat) (m : Q1f) : Option Int :=
 (Q0u N m.Type').bind fun v1 =>
 cond (!v1)
 (some 8)
 ((Q6a N m.Type' m.Flags).bind fun v4 =>
 cond (!v4)
 (some 7)
 ((Q4a N m.Type').bind fun v7 =>
 cond v7
 (cond (Q4s .eql m.Name [])
 (cond (!(((m.Flags.Dup : Bool) == false) && (((m.Flags.QoS : Int) == 0) && (((m.Flags.Retain : Bool) == false) && (((m.Flags.Will : Bool) == false) && (((m.Flags.Clean : Bool) == false) && (((m.Flags.Type' : Int) == 0) && true)))))))
 (some 7)
 ((Yf N (⟨2, m, [], false⟩ : Q4)).bind fun v12 =>
 cond v12.2.bad
 (some 2)
 (cond (!(((v12.2.m.Type' : Int) == m.Type') && (((v12.2.m.Flags.Dup : Bool) == m.Flags.Dup) && (((v12.2.m.Flags.QoS : Int) == m.Flags.QoS) && (((v12.2.m.Flags.Retain : Bool) == m.Flags.Retain) && (((v12.2.m.Flags.Will : Bool) == m.Flags.Will) && (((v12.2.m.Flags.Clean : Bool) == m.Flags.Clean) && (((v12.2.m.Flags.Type' : Int) == m.Flags.Type') && (((v12.2.m.Gateway : Int) == 0) && (((v12.2.m.Radius : Int) == 0) && (((v12.2.m.Time : Int) == 0) && (((v12.2.m.Timed : Bool) == false) && (((v12.2.m.TopicID : Int) == 0) && (((v12.2.m.MsgID : Int) == 0) && (((v12.2.m.Code : Int) == 0) && (((v12.2.m.Name : List UInt8) == []) && (((v12.2.m.Data : List UInt8) == []) && true)))))))))))))))))
 (some 2)
 ((Gf N m).bind fun v16 =>
 cond (!v16)
 (some 2)
 ((Ul N m).bind fun v19 =>
 cond (Q3 .neq v19 0)
 (some v19)
 ((Q0q N m).bind fun v22 =>
 cond (Q3 .neq v22 0)
 (some v22)
 ((G8 N m).bind fun v25 =>
 (Vd N m.Type' (v25.length : Int)).bind fun v27 =>
 some v27.2)))))))
 ((Yf N (⟨2, m, [], false⟩ : Q4)).bind fun v29 =>
 cond v29.2.bad
 (some 2)
 (cond (!(((v29.2.m.Type' : Int) == m.Type') && (((v29.2.m.Flags.Dup : Bool) == m.Flags.Dup) && (((v29.2.m.Flags.QoS : Int) == m.Flags.QoS) && (((v29.2.m.Flags.Retain : Bool) == m.Flags.Retain) && (((v29.2.m.Flags.Will : Bool) == m.Flags.Will) && (((v29.2.m.Flags.Clean : Bool) == m.Flags.Clean) && (((v29.2.m.Flags.Type' : Int) == m.Flags.Type') && (((v29.2.m.Gateway : Int) == 0) && (((v29.2.m.Radius : Int) == 0) && (((v29.2.m.Time : Int) == 0) && (((v29.2.m.Timed : Bool) == false) && (((v29.2.m.TopicID : Int) == 0) && (((v29.2.m.MsgID : Int) == 0) && (((v29.2.m.Code : Int) == 0) && (((v29.2.m.Name : List UInt8) == []) && (((v29.2.m.Data : List UInt8) == []) && true)))))))))))))))))
 (some 2)
 ((Gf N m).bind fun v33 =>
 cond (!v33)
 (some 2)
 ((Ul N m).bind fun v36 =>
 cond (Q3 .neq v36 0)
 (some v36)
 ((Q0q N m).bind fun v39 =>
 cond (Q3 .neq v39 0)
 (some v39)
 ((G8 N m).bind fun v42 =>
 (Vd N m.Type' (v42.length : Int)).bind fun v44 =>
 some v44.2)))))))
 ((Yf N (⟨2, m, [], false⟩ : Q4)).bind fun v46 =>
 cond v46.2.bad
 (some 2)
 (cond (!(((v46.2.m.Type' : Int) == m.Type') && (((v46.2.m.Flags.Dup : Bool) == m.Flags.Dup) && (((v46.2.m.Flags.QoS : Int) == m.Flags.QoS) && (((v46.2.m.Flags.Retain : Bool) == m.Flags.Retain) && (((v46.2.m.Flags.Will : Bool) == m.Flags.Will) && (((v46.2.m.Flags.Clean : Bool) == m.Flags.Clean) && (((v46.2.m.Flags.Type' : Int) == m.Flags.Type') && (((v46.2.m.Gateway : Int) == 0) && (((v46.2.m.Radius : Int) == 0) && (((v46.2.m.Time : Int) == 0) && (((v46.2.m.Timed : Bool) == false) && (((v46.2.m.TopicID : Int) == 0) && (((v46.2.m.MsgID : Int) == 0) && (((v46.2.m.Code : Int) == 0) && (((v46.2.m.Name : List UInt8) == []) && (((v46.2.m.Data : List UInt8) == []) && true)))))))))))))))))
 (some 2)
 ((Gf N m).bind fun v50 =>
 cond (!v50)
 (some 2)
 ((Ul N m).bind fun v53 =>
 cond (Q3 .neq v53 0)
 (some v53)
 ((Q0q N m).bind fun v56 =>
 cond (Q3 .neq v56 0)
 (some v56)
 ((G8 N m).bind fun v59 =>
 (Vd N m.Type' (v59.length : Int)).bind fun v61 =>
 some v61.2))))))))
theorem Qef {N} {m} {r} (h : Q3b N m = some r) : pU 133 [.agg (Q1f.cells m)] (.int .i64 r) := by
 refine Q2 Zdi ?_;unfold Q3b at h;rw [cX, cY] at h;refine cP h Qb5 p1 fun v1 h => ?_;refine iL h fun h => ?_;refine cP h Qfx (.cons (.p _) (.cons (Frz.agg' (.cons (.p _) p5)) .nil)) fun v4 h => ?_;refine iL h fun h => ?_;refine cP h Qfr p1 fun v7 h => ?_;apply iU h <;> intro h
 ·apply iU h <;> intro h
  ·refine iL h fun h => ?_;refine cG h Vq fun v12 h => ?_;refine ⟨rho [1, 3], (.cells (Qhu m ([])) :: .cells (Jr v12.2 2) :: .cells (Qu (cI .u8) v12.2.out) :: []), .tuple [], ⟨(rE rfl <| rN), (hC rfl (rE rfl <| rE rfl <| rE rfl <| rE rfl <| rE rfl <| rE rfl <| rE rfl <| rE rfl <| rE rfl <| rE rfl <| rE rfl <| rE rfl <| rE rfl <| rE rfl <| rE rfl <| rE rfl <| rE rfl <| rE rfl <| rS <| rE rfl <| rN) <| hV lb <| hN), rfl, rfl, (roE rfl <| roE (Wr _ _ _) <| roN), rfl, (fK rfl rfl <| fR 0 rfl rfl rfl rfl <| fO 2 rfl rfl rfl <| fN), rfl⟩, ?_⟩;refine iL h fun h => ?_;refine iL h fun h => ?_;refine cP h Q4k (.cons (Frz.agg' (f8_ (f2_ (.cons (.p _) p5)))) .nil) fun v16 h => ?_;refine iL h fun h => ?_;refine cP h Q2p (.cons (Frz.agg' (f8_ (f2_ (.cons (.p _) p5)))) .nil) fun v19 h => ?_;refine iL h fun h => ?_;refine cP h Q5i (.cons (Frz.agg' (f8_ (f2_ (.cons (.p _) p5)))) .nil) fun v22 h => ?_;refine iL h fun h => ?_;refine Qa ?_;refine cD h Q36 (.cons (Frz.agg' (f8_ (f2_ (.cons (.p _) p5)))) .nil) fun v25 h => ?_;refine cD h Q16 p2 fun v27 h => ?_;cases h; exact (.p _)
  refine cG h Vq fun v29 h => ?_;refine ⟨rho [1, 3], (.cells (Qhu m ([])) :: .cells (Jr v29.2 2) :: .cells (Qu (cI .u8) v29.2.out) :: []), .tuple [], ⟨(rE rfl <| rN), (hC rfl (rE rfl <| rE rfl <| rE rfl <| rE rfl <| rE rfl <| rE rfl <| rE rfl <| rE rfl <| rE rfl <| rE rfl <| rE rfl <| rE rfl <| rE rfl <| rE rfl <| rE rfl <| rE rfl <| rE rfl <| rE rfl <| rS <| rE rfl <| rN) <| hV lb <| hN), rfl, rfl, (roE rfl <| roE (Wr _ _ _) <| roN), rfl, (fK rfl rfl <| fR 0 rfl rfl rfl rfl <| fO 2 rfl rfl rfl <| fN), rfl⟩, ?_⟩;refine iL h fun h => ?_;refine iL h fun h => ?_;refine cP h Q4k (.cons (Frz.agg' (f8_ (f2_ (.cons (.p _) p5)))) .nil) fun v33 h => ?_;refine iL h fun h => ?_;refine cP h Q2p (.cons (Frz.agg' (f8_ (f2_ (.cons (.p _) p5)))) .nil) fun v36 h => ?_;refine iL h fun h => ?_;refine cP h Q5i (.cons (Frz.agg' (f8_ (f2_ (.cons (.p _) p5)))) .nil) fun v39 h => ?_;refine iL h fun h => ?_;refine Qa ?_;refine cD h Q36 (.cons (Frz.agg' (f8_ (f2_ (.cons (.p _) p5)))) .nil) fun v42 h => ?_;refine cD h Q16 p2 fun v44 h => ?_;cases h; exact (.p _)
 refine cG h Vq fun v46 h => ?_;refine ⟨rho [1, 3], (.cells (Qhu m ([])) :: .cells (Jr v46.2 2) :: .cells (Qu (cI .u8) v46.2.out) :: []), .tuple [], ⟨(rE rfl <| rN), (hC rfl (rE rfl <| rE rfl <| rE rfl <| rE rfl <| rE rfl <| rE rfl <| rE rfl <| rE rfl <| rE rfl <| rE rfl <| rE rfl <| rE rfl <| rE rfl <| rE rfl <| rE rfl <| rE rfl <| rE rfl <| rE rfl <| rS <| rE rfl <| rN) <| hV lb <| hN), rfl, rfl, (roE rfl <| roE (Wr _ _ _) <| roN), rfl, (fK rfl rfl <| fR 0 rfl rfl rfl rfl <| fO 2 rfl rfl rfl <| fN), rfl⟩, ?_⟩;refine iL h fun h => ?_;refine iL h fun h => ?_;refine cP h Q4k (.cons (Frz.agg' (f8_ (f2_ (.cons (.p _) p5)))) .nil) fun v50 h => ?_;refine iL h fun h => ?_;refine cP h Q2p (.cons (Frz.agg' (f8_ (f2_ (.cons (.p _) p5)))) .nil) fun v53 h => ?_;refine iL h fun h => ?_;refine cP h Q5i (.cons (Frz.agg' (f8_ (f2_ (.cons (.p _) p5)))) .nil) fun v56 h => ?_;refine iL h fun h => ?_;refine Qa ?_;refine cD h Q36 (.cons (Frz.agg' (f8_ (f2_ (.cons (.p _) p5)))) .nil) fun v59 h => ?_;refine cD h Q16 p2 fun v61 h => ?_;cases h; exact (.p _)
def Q0x (N : Nat) (m : Q1f) : Option ((List UInt8) × Int) :=
 (Q3b N m).bind fun v1 =>
 cond (Q3 .neq v1 0)
 (some ([], v1))
 ((G8 N m).bind fun v4 =>
 (Vd N m.Type' (v4.length : Int)).bind fun v6 =>
 cond (Q3 .neq v6.2 0)
 (some ([], v6.2))
 (cond (Nat.ble (v6.1.length + v4.length) 4611686018427387904) (some ((v6.1 ++ v4), 0)) none))
theorem Q7x {N} {m} {r} (h : Q0x N m = some r) : pU 97 [.agg (Q1f.cells m)] (.tuple [.str r.1, .int .i64 r.2]) := by
 refine Q2 k97 ?_;unfold Q0x at h;rw [cX] at h;refine cP h Qef (.cons (Frz.agg' (f8_ (f2_ (.cons (.p _) p5)))) .nil) fun v1 h => ?_;refine iL2 h fun h => ?_;refine cP h Q36 (.cons (Frz.agg' (f8_ (f2_ (.cons (.p _) p5)))) .nil) fun v4 h => ?_;refine cP h Q16 p2 fun v6 h => ?_;refine iL2 h fun h => ?_;refine kU h fun h => ?_;obtain rfl := Qd h; exact u2
def Jw (N : Nat) (h_0 : Vi) : Option (List UInt8) :=
 (Qo N (wrap .u64 (wrap .i64 (3 + (h_0.Node.length : Int)))) 1).bind fun v1 =>
 (Qo N 254 1).bind fun v3 =>
 cond (Nat.ble (v1.length + v3.length) 4611686018427387904) ((Qo N (wrap .u64 h_0.Radius) 1).bind fun v6 =>
 cond (Nat.ble ((v1 ++ v3).length + v6.length) 4611686018427387904) (cond (Nat.ble (((v1 ++ v3) ++ v6).length + h_0.Node.length) 4611686018427387904) (some (((v1 ++ v3) ++ v6) ++ h_0.Node)) none) none) none
theorem Q4r {N} {h_0} {r} (h : Jw N h_0 = some r) : pU 98 [.agg (Vi.cells h_0)] (.str r) := by
 refine Q2 k98 ?_;unfold Jw at h;refine Qa ?_;refine cD h Qh p2 fun v1 h => ?_;refine cD h Qh p2 fun v3 h => ?_;refine kU h fun h => ?_;refine cD h Qh p2 fun v6 h => ?_;refine kU h fun h => ?_;refine kU h fun h => ?_;cases h; exact (.p _)
def Q1i (_N : Nat) (l : Ya) : Option Bool :=
 cond (Q3 .geq l.MaxPacket 16)
 (cond (Q3 .leq l.MaxPacket 1048576)
 (cond (Q3 .geq l.MaxDepth 0)
 (some (Q3 .leq l.MaxDepth 32))
 (some false))
 (some false))
 (some false)
theorem Qdc {N} {l} {r} (h : Q1i N l = some r) : pU 93 [.agg (Ya.cells l)] (.bool r) := by
 refine Q2 k93 ?_;unfold Q1i at h;rw [cX] at h;refine iR h fun h => ?_;refine iR h fun h => ?_;exact iB h
def Q3l (_N : Nat) (h_0 : Vi) : Option Bool :=
 cond (Q3 .geq h_0.Radius 0)
 (cond (Q3 .leq h_0.Radius 3)
 (cond (Q3 .geq (h_0.Node.length : Int) 1)
 (some (Q3 .leq (h_0.Node.length : Int) 32))
 (some false))
 (some false))
 (some false)
theorem Q9r {N} {h_0} {r} (h : Q3l N h_0 = some r) : pU 96 [.agg (Vi.cells h_0)] (.bool r) := by
 refine Q2 k96 ?_;unfold Q3l at h;rw [cX] at h;refine iR h fun h => ?_;refine iR h fun h => ?_;exact iB h
def Q1y (N : Nat) (h_0 : Vi) : Option Bool :=
 (Q3l N h_0).bind fun v1 =>
 some (!v1)
theorem Qac {N} {h_0} {r} (h : Q1y N h_0 = some r) : pU 95 [.agg (Vi.cells h_0)] (.bool r) := by
 refine Q2 k95 ?_;unfold Q1y at h;refine cP h Q9r (.cons q2 .nil) fun v1 h => ?_;cases h; exact (.p _)
def W7 (N : Nat) (d : W1) (l : Ya) (v26 : (List UInt8) × Int) : Nat → (List UInt8) → Int → Option ((List UInt8) × Int)
 | 0, _, _ => none
 | n + 1, out43, s44 =>
  cond (Q3 .lss s44 ((Q8 Vi.cells d.Hops).length : Int))
  ((idx d.Hops s44).bind fun y46 =>
  (Jw N y46).bind fun v48 =>
  cond (Nat.ble (out43.length + v48.length) 4611686018427387904) (W7 N d l v26 n (out43 ++ v48) (wrap .i64 (s44 + 1))) none)
  (cond (Q3 .gtr (wrap .i64 ((out43.length : Int) + (v26.1.length : Int))) l.MaxPacket)
  (some ([], 4))
  (cond (Nat.ble (out43.length + v26.1.length) 4611686018427387904) (some ((out43 ++ v26.1), 0)) none))
def W5 (N : Nat) (d : W1) (l : Ya) (v53 : (List UInt8) × Int) : Nat → (List UInt8) → Int → Option ((List UInt8) × Int)
 | 0, _, _ => none
 | n + 1, out70, s71 =>
  cond (Q3 .lss s71 ((Q8 Vi.cells d.Hops).length : Int))
  ((idx d.Hops s71).bind fun y73 =>
  (Jw N y73).bind fun v75 =>
  cond (Nat.ble (out70.length + v75.length) 4611686018427387904) (W5 N d l v53 n (out70 ++ v75) (wrap .i64 (s71 + 1))) none)
  (cond (Q3 .gtr (wrap .i64 ((out70.length : Int) + (v53.1.length : Int))) l.MaxPacket)
  (some ([], 4))
  (cond (Nat.ble (out70.length + v53.1.length) 4611686018427387904) (some ((out70 ++ v53.1), 0)) none))
def W4 (N : Nat) (d : W1) (l : Ya) : Nat → Int → Option ((List UInt8) × Int)
 | 0, _ => none
 | n + 1, s18 =>
  cond (Q3 .lss s18 ((Q8 Vi.cells d.Hops).length : Int))
  ((idx d.Hops s18).bind fun y20 =>
  (Q1y N y20).bind fun v22 =>
  cond v22
  (cond (Q3 .geq s18 0)
  (some ([], 2))
  ((Q0x N d.Msg).bind fun v26 =>
  cond (Q3 .neq v26.2 0)
  (some ([], v26.2))
  (W7 N d l v26 N [] 0)))
  (W4 N d l n (wrap .i64 (s18 + 1))))
  ((Q0x N d.Msg).bind fun v53 =>
  cond (Q3 .neq v53.2 0)
  (some ([], v53.2))
  (W5 N d l v53 N [] 0))
def Q3w (N : Nat) (d : W1) (l : Ya) : Option ((List UInt8) × Int) :=
 (Q1i N l).bind fun v1 =>
 cond (!v1)
 (some ([], 2))
 (cond (Q3 .gtr ((Q8 Vi.cells d.Hops).length : Int) 4)
 (some ([], 12))
 (W4 N d l N 0))
theorem Qcv {N} {d} {l} {r} (h : Q3w N d l = some r) : pU 75 [.agg (W1.cells d), .agg (Ya.cells l)] (.tuple [.str r.1, .int .i64 r.2]) := by
 refine Q2 k75 ?_;unfold Q3w at h;rw [cX] at h;refine cP h Qdc (.cons q2 .nil) fun v1 h => ?_;refine iL2 h fun h => ?_;refine iL2 h fun h => ?_;refine Qi k94 ?_;refine Qi Zd2 ?_;refine lpH (τ := Int) (fun s18 => (.p (.slice 2 (Q8 Vi.cells d.Hops)) :: .p (.func (.func 95) [] []) :: a4 (.any :: iI ((Q8 Vi.cells d.Hops).length : Int) :: iI s18 :: a8 (a2 ([]))) : List AV)) (fun n0 s18 => W4 N d l n0 s18) (0) h fun n0 s18 h => ?_
 first | rw [W4] at h | simp only [W4] at h
 rw [cX] at h;apply iU h <;> intro h
 ·refine xR h fun y20 h => ?_;refine cP h Qac (.cons q2 .nil) fun v22 h => ?_;apply iU h <;> intro h
  ·refine iL2 h fun h => ?_;refine cP h Q7x (.cons (Frz.agg' (f8_ (f2_ (.cons (.p _) p5)))) .nil) fun v26 h => ?_;refine iL2 h fun h => ?_;refine lpH (τ := (List UInt8) × Int) (fun ⟨out43, s44⟩ => (a2 (.any :: .ptr 1 0 :: .any :: .any :: iS v26.1 :: .any :: iS out43 :: a16 (a4 (a2 (.p (.slice 2 (Q8 Vi.cells d.Hops)) :: iI ((Q8 Vi.cells d.Hops).length : Int) :: iI s44 :: a16 (a2 (.any :: [])))))) : List AV)) (fun n1 ⟨out43, s44⟩ => W7 N d l v26 n1 out43 s44) ([], 0) h fun n1 ⟨out43, s44⟩ h => ?_
   first | rw [W7] at h | simp only [W7] at h
   rw [cX] at h;apply iU h <;> intro h
   ·refine xR h fun y46 h => ?_;refine cP h Q4r (.cons q2 .nil) fun v48 h => ?_;refine kU h fun h => ?_;show Exists _;exact ⟨(n1, (out43 ++ v48), (wrap .i64 (s44 + 1))), h, Le _, (fun i => i), Z6⟩
   refine iL2 h fun h => ?_;refine kU h fun h => ?_;obtain rfl := Qd h; exact u2
  show Exists _;exact ⟨(n0, (wrap .i64 (s18 + 1))), h, Le _, (fun i => i), Z6⟩
 refine dF ?_;refine cP h Q7x (.cons (Frz.agg' (f8_ (f2_ (.cons (.p _) p5)))) .nil) fun v53 h => ?_;refine iL2 h fun h => ?_;refine lpH (τ := (List UInt8) × Int) (fun ⟨out70, s71⟩ => (a2 (.any :: .ptr 1 0 :: .any :: .any :: iS v53.1 :: .any :: iS out70 :: a16 (a4 (a2 (.p (.slice 2 (Q8 Vi.cells d.Hops)) :: iI ((Q8 Vi.cells d.Hops).length : Int) :: iI s71 :: a16 (a2 (.any :: [])))))) : List AV)) (fun n2 ⟨out70, s71⟩ => W5 N d l v53 n2 out70 s71) ([], 0) h fun n2 ⟨out70, s71⟩ h => ?_
 first | rw [W5] at h | simp only [W5] at h
 rw [cX] at h;apply iU h <;> intro h
 ·refine xR h fun y73 h => ?_;refine cP h Q4r (.cons q2 .nil) fun v75 h => ?_;refine kU h fun h => ?_;show Exists _;exact ⟨(n2, (out70 ++ v75), (wrap .i64 (s71 + 1))), h, Le _, (fun i => i), Z6⟩
 refine iL2 h fun h => ?_;refine kU h fun h => ?_;obtain rfl := Qd h; exact u2
def Ua (N : Nat) (d : W1) (l : Ya) : Option Int :=
 (Q3w N d l).bind fun v1 =>
 some v1.2
theorem Q3o {N} {d} {l} {r} (h : Ua N d l = some r) : pU 57 [.agg (W1.cells d), .agg (Ya.cells l)] (.int .i64 r) := by
 refine Q2 k57 ?_;unfold Ua at h;refine cP h Qcv (.cons (Frz.agg' (f8_ (f2_ (f1_ (.cons (.p _) p5))))) (.cons q2 .nil)) fun v1 h => ?_;cases h; exact (.p _)
def Wd (_N : Nat) (a : Wa) (version : Int) : Option Bool :=
 some false
theorem Q18 {N} {a} {version} {r} (h : Wd N a version = some r) : pU 252 [.agg (Wa.cells a), .int .i64 version] (.bool r) := by
 refine Q2 Zaw ?_;unfold Wd at h;cases h; exact (.p _)
def U3 (_N : Nat) (a : Wa) (version : Int) : Option Bool :=
 some (Q3 .eql version 5)
theorem Q2l {N} {a} {version} {r} (h : U3 N a version = some r) : pU 253 [.agg (Wa.cells a), .int .i64 version] (.bool r) := by
 refine Q2 Zai ?_;unfold U3 at h;rw [cX] at h;cases h; exact (.p _)
def Gs (N : Nat) (version : Int) (kind : Int) : Option (Bool × Bool) :=
 cond ((kind : Int) == 12)
 ((Wd N (⟨⟩ : Wa) version).bind fun v2 =>
 some (v2, true))
 (cond ((kind : Int) == 13)
 ((Wd N (⟨⟩ : Wa) version).bind fun v5 =>
 some (v5, true))
 (cond ((kind : Int) == 14)
 ((U3 N (⟨⟩ : Wa) version).bind fun v8 =>
 some (v8, true))
 (cond ((kind : Int) == 15)
 ((U3 N (⟨⟩ : Wa) version).bind fun v11 =>
 some (v11, true))
 (some (false, false)))))
theorem Q75 {N} {version} {kind} {r} (h : Gs N version kind = some r) : pU 215 [.int .i64 version, .int .i64 kind] (.tuple [.bool r.1, .bool r.2]) := by
 refine Q2 Zgn ?_;unfold Gs at h;apply iU h <;> intro h
 ·refine cP h Q18 (.cons (Frz.agg' .nil) p1) fun v2 h => ?_;obtain rfl := Qd h; exact u2
 apply iU h <;> intro h
 ·refine cP h Q18 (.cons (Frz.agg' .nil) p1) fun v5 h => ?_;obtain rfl := Qd h; exact u2
 apply iU h <;> intro h
 ·refine cP h Q2l (.cons (Frz.agg' .nil) p1) fun v8 h => ?_;obtain rfl := Qd h; exact u2
 refine iR2 h fun h => ?_;refine cP h Q2l (.cons (Frz.agg' .nil) p1) fun v11 h => ?_;obtain rfl := Qd h; exact u2
def Q0c (N : Nat) (version : Int) (kind : Int) : Option Int :=
 (Gs N version kind).bind fun v1 =>
 cond (!v1.2)
 (some 2)
 (cond (Q3 .neq version 4)
 (cond (Q3 .neq version 5)
 (some 2)
 (cond (Q3 .eql kind 15)
 (cond (Q3 .eql version 4)
 (some 8)
 (some 0))
 (some 0)))
 (cond (Q3 .eql kind 15)
 (cond (Q3 .eql version 4)
 (some 8)
 (some 0))
 (some 0)))
theorem Qcg {N} {version} {kind} {r} (h : Q0c N version kind = some r) : pU 214 [.int .i64 version, .int .i64 kind] (.int .i64 r) := by
 refine Q2 Z9p ?_;unfold Q0c at h;rw [cX] at h;refine cP h Q75 p2 fun v1 h => ?_;refine iL h fun h => ?_;apply iU h <;> intro h
 ·refine iL h fun h => ?_;refine iR h fun h => ?_;exact iB h
 refine iR h fun h => ?_;exact iB h
def F_prop_rules_tab : List (Int × Qm) := [(1, (⟨1, 65544, 0, 1⟩ : Qm)), (2, (⟨3, 65544, 0, 4294967295⟩ : Qm)), (3, (⟨5, 65544, 0, 0⟩ : Qm)), (8, (⟨5, 65544, 0, 0⟩ : Qm)), (9, (⟨6, 65544, 0, 0⟩ : Qm)), (11, (⟨4, 264, 1, 268435455⟩ : Qm)), (17, (⟨3, 16390, 0, 4294967295⟩ : Qm)), (18, (⟨5, 4, 0, 0⟩ : Qm)), (19, (⟨2, 4, 0, 65535⟩ : Qm)), (21, (⟨5, 32774, 0, 0⟩ : Qm)), (22, (⟨6, 32774, 0, 0⟩ : Qm)), (23, (⟨1, 2, 0, 1⟩ : Qm)), (24, (⟨3, 65536, 0, 4294967295⟩ : Qm)), (25, (⟨1, 2, 0, 1⟩ : Qm)), (26, (⟨5, 4, 0, 0⟩ : Qm)), (28, (⟨5, 16388, 0, 0⟩ : Qm)), (31, (⟨5, 51956, 0, 0⟩ : Qm)), (33, (⟨2, 6, 1, 65535⟩ : Qm)), (34, (⟨2, 6, 0, 65535⟩ : Qm)), (35, (⟨2, 8, 1, 65535⟩ : Qm)), (36, (⟨1, 4, 0, 1⟩ : Qm)), (37, (⟨1, 4, 0, 1⟩ : Qm)), (38, (⟨7, 118782, 0, 0⟩ : Qm)), (39, (⟨3, 6, 1, 4294967295⟩ : Qm)), (40, (⟨1, 4, 0, 1⟩ : Qm)), (41, (⟨1, 4, 0, 1⟩ : Qm)), (42, (⟨1, 4, 0, 1⟩ : Qm))]
theorem Qfp : pU 86 [] (.pmap (Z2r (fun v => .agg (Qm.cells v)) F_prop_rules_tab)) := Qg Q6w (N := 2000) (d := 60) (by kernel_rfl)
def Uo (_N : Nat) (r_0 : Qm) (kind : Int) : Option Bool :=
 cond (Q3 .geq kind 1)
 (cond (Q3 .leq kind 16)
 (cond (decide (0 ≤ (wrap .u64 kind))) (some (Q3 .eql (Jq .i64 (Q4m .i64 r_0.kinds (wrap .u64 kind)) 1) 1)) none)
 (some false))
 (some false)
theorem Qcn {N} {r_0} {kind} {r} (h : Uo N r_0 kind = some r) : pU 116 [.agg (Qm.cells r_0), .int .i64 kind] (.bool r) := by
 refine Q2 Zbr ?_;unfold Uo at h;rw [cX] at h;refine iR h fun h => ?_;refine iR h fun h => ?_;refine kU h fun h => ?_;cases h; exact (.p _)
def Je (_N : Nat) (r_0 : Qm) (p : Qc) : Option Int :=
 cond (Q4s .neq p.Text [])
 (some 2)
 (cond (Q4s .neq p.Value [])
 (some 2)
 (cond (Q3 .lss p.N' r_0.least)
 (some 9)
 (cond (Q3 .gtr p.N' r_0.most)
 (some 9)
 (some 0))))
theorem Q8x {N} {r_0} {p} {r} (h : Je N r_0 p = some r) : pU 117 [.agg (Qm.cells r_0), .agg (Qc.cells p)] (.int .i64 r) := by
 refine Q2 Zdv ?_;unfold Je at h;rw [cX, cY] at h;refine iL h fun h => ?_;refine iL h fun h => ?_;refine iL h fun h => ?_;exact iB h
def Q0v (N : Nat) (r_0 : Qm) (kind : Int) (p : Qc) : Option Int :=
 (Uo N r_0 kind).bind fun v1 =>
 cond (!v1)
 (some 9)
 (cond (Q3 .leq r_0.shape 4)
 ((Je N r_0 p).bind fun v5 =>
 some v5)
 (cond (Q3 .neq p.N' 0)
 (some 2)
 (cond (Q4s .neq p.Value [])
 (cond (Q3 .neq r_0.shape 7)
 (some 2)
 (cond (Q3 .eql r_0.shape 6)
 (cond (Q3 .gtr (p.Text.length : Int) 65535)
 (some 2)
 (some 0))
 ((Z5 N p.Text).bind fun v12 =>
 cond (!v12)
 (some 6)
 ((Z5 N p.Value).bind fun v15 =>
 cond (!v15)
 (some 6)
 (cond (Q3 .eql p.ID 8)
 ((Zf N p.Text).bind fun v19 =>
 cond (!v19)
 (some 9)
 (some 0))
 (some 0))))))
 (cond (Q3 .eql r_0.shape 6)
 (cond (Q3 .gtr (p.Text.length : Int) 65535)
 (some 2)
 (some 0))
 ((Z5 N p.Text).bind fun v24 =>
 cond (!v24)
 (some 6)
 ((Z5 N p.Value).bind fun v27 =>
 cond (!v27)
 (some 6)
 (cond (Q3 .eql p.ID 8)
 ((Zf N p.Text).bind fun v31 =>
 cond (!v31)
 (some 9)
 (some 0))
 (some 0))))))))
theorem Q8i {N} {r_0} {kind} {p} {r} (h : Q0v N r_0 kind p = some r) : pU 87 [.agg (Qm.cells r_0), .int .i64 kind, .agg (Qc.cells p)] (.int .i64 r) := by
 refine Q2 k87 ?_;unfold Q0v at h;rw [cX, cY] at h;refine cP h Qcn (.cons q4 p1) fun v1 h => ?_;refine iL h fun h => ?_;apply iU h <;> intro h
 ·refine cP h Q8x (.cons q4 (.cons q4 .nil)) fun v5 h => ?_;cases h; exact (.p _)
 refine iL h fun h => ?_;apply iU h <;> intro h
 ·refine iL h fun h => ?_;apply iU h <;> intro h
  ·exact iB h
  refine cP h Zq p1 fun v12 h => ?_;refine iL h fun h => ?_;refine cP h Zq p1 fun v15 h => ?_;refine iL h fun h => ?_;refine iR h fun h => ?_;refine cP h Ym p1 fun v19 h => ?_;exact iB h
 apply iU h <;> intro h
 ·exact iB h
 refine cP h Zq p1 fun v24 h => ?_;refine iL h fun h => ?_;refine cP h Zq p1 fun v27 h => ?_;refine iL h fun h => ?_;refine iR h fun h => ?_;refine cP h Ym p1 fun v31 h => ?_;exact iB h
def Q2f (_N : Nat) (kind : Int) (id : Int) : Option Bool :=
 cond (Q3 .eql id 38)
 (some true)
 (cond (Q3 .eql id 11)
 (some (Q3 .eql kind 3))
 (some false))
theorem Q8u {N} {kind} {id} {r} (h : Q2f N kind id = some r) : pU 118 [.int .i64 kind, .int .i64 id] (.bool r) := by
 refine Q2 Z6o ?_;unfold Q2f at h;rw [cX] at h;refine iL h fun h => ?_;exact iB h
def J3 (N : Nat) (s_0 : List UInt8) : Option (List UInt8) :=
 (Qo N (wrap .u64 (s_0.length : Int)) 2).bind fun v1 =>
 cond (Nat.ble (v1.length + s_0.length) 4611686018427387904) (some (v1 ++ s_0)) none
theorem Q55 {N} {s_0} {r} (h : J3 N s_0 = some r) : pU 156 [.str s_0] (.str r) := by
 refine Q2 Zar ?_;unfold J3 at h;refine cP h Qh p2 fun v1 h => ?_;refine kU h fun h => ?_;cases h; exact (.p _)
def J4 (N : Nat) (s_0 : List UInt8) : Option ((List UInt8) × Int) :=
 cond (Q3 .gtr (s_0.length : Int) 65535)
 (some ([], 2))
 ((J3 N s_0).bind fun v2 =>
 some (v2, 0))
theorem Q27 {N} {s_0} {r} (h : J4 N s_0 = some r) : pU 120 [.str s_0] (.tuple [.str r.1, .int .i64 r.2]) := by
 refine Q2 Zcg ?_;unfold J4 at h;rw [cX] at h;refine iL2 h fun h => ?_;refine cP h Q55 p1 fun v2 h => ?_;obtain rfl := Qd h; exact u2
def Q4e (_N : Nat) (n_0 : Int) : Option Bool :=
 cond (Q3 .geq n_0 0)
 (some (Q3 .leq n_0 268435455))
 (some false)
theorem Qgc {N} {n_0} {r} (h : Q4e N n_0 = some r) : pU 121 [.int .i64 n_0] (.bool r) := by
 refine Q2 Zau ?_;unfold Q4e at h;rw [cX] at h;exact iB h
def V2 (N : Nat) : Nat → Int → (List Int) → Option ((List UInt8) × Int)
 | 0, _, _ => none
 | n + 1, n9, l10 =>
  cond (Q3 .geq n9 128)
  (cond (Nat.ble ((l10.length + 1 + 4096) * 1) 17592186044416) (V2 N n (wrap .i64 ((n9 : Int).tdiv 128)) (l10 ++ [(orI .u8 (wrap .u8 ((n9 : Int).tmod 128)) 128)])) none)
  (cond (Nat.ble ((l10.length + 1 + 4096) * 1) 17592186044416) (some (((l10 ++ [(wrap .u8 n9)]).map fun n => UInt8.ofNat n.toNat), 0)) none)
def Jo (N : Nat) (n_0 : Int) : Option ((List UInt8) × Int) :=
 (Q4e N n_0).bind fun v1 =>
 cond (!v1)
 (some ([], 2))
 (V2 N N n_0 [])
theorem Q3s {N} {n_0} {r} (h : Jo N n_0 = some r) : pU 91 [.int .i64 n_0] (.tuple [.str r.1, .int .i64 r.2]) := by
 refine Q2 k91 ?_;unfold Jo at h;refine cP h Qgc p1 fun v1 h => ?_;refine iL2 h fun h => ?_;refine lpA (τ := Int × (List Int)) (fun ⟨n9, l10⟩ => (iI n9 :: a2 (.any :: .slice 1 0 0 l10.length :: a16 (a4 ([]))) : List AV)) (fun ⟨_, l10⟩ => (.cells (Qu (cI .u8) l10) :: [] : List AObj)) (fun n0 ⟨n9, l10⟩ => V2 N n0 n9 l10) (n_0, []) h fun n0 ⟨n9, l10⟩ h => ?_
 first | rw [V2] at h | simp only [V2] at h
 rw [cX] at h;apply iU h <;> intro h
 ·obtain ⟨hk12, h⟩ := Q4u h;refine Js (Xe (c := (cI .u8)) (e := 1) (fun _ => rfl) sd hk12) ?_;refine Uy (c := (cI .u8)) [(orI .u8 (wrap .u8 ((n9 : Int).tmod 128)) 128)] rfl ?_;show Exists _;exact ⟨(n0, (wrap .i64 ((n9 : Int).tdiv 128)), (l10 ++ [(orI .u8 (wrap .u8 ((n9 : Int).tmod 128)) 128)])), h, Le _, (rho [2]), Z6⟩
 obtain ⟨hk13, h⟩ := Q4u h;refine Js (Xe (c := (cI .u8)) (e := 1) (fun _ => rfl) sd hk13) ?_;refine Uy (c := (cI .u8)) [(wrap .u8 n9)] rfl ?_;refine Qhd (l := (l10 ++ [(wrap .u8 n9)])) (n := (l10.length + 1)) sd ?_;obtain rfl := Qd h; exact u2
def G6 (N : Nat) (shape : Int) (p : Qc) : Option (List UInt8) :=
 cond (Q3 .eql shape 1)
 ((Qo N (wrap .u64 p.N') shape).bind fun v2 =>
 some v2)
 (cond (Q3 .eql shape 2)
 ((Qo N (wrap .u64 p.N') shape).bind fun v5 =>
 some v5)
 (cond (Q3 .eql shape 3)
 ((Qo N (wrap .u64 p.N') 4).bind fun v8 =>
 some v8)
 (cond (Q3 .eql shape 4)
 ((Jo N (wrap .i64 p.N')).bind fun v11 =>
 some v11.1)
 ((J4 N p.Text).bind fun v13 =>
 cond (Q3 .neq shape 7)
 (some v13.1)
 ((J4 N p.Value).bind fun v16 =>
 cond (Nat.ble (v13.1.length + v16.1.length) 4611686018427387904) (some (v13.1 ++ v16.1)) none)))))
theorem Q2t {N} {shape} {p} {r} (h : G6 N shape p = some r) : pU 89 [.int .i64 shape, .agg (Qc.cells p)] (.str r) := by
 refine Q2 k89 ?_;unfold G6 at h;rw [cX] at h;refine ifO h (fun hc1 h => ?_) (fun hc1 h => ?_)
 ·refine ifT hc1 ?_;refine cP h Qh p2 fun v2 h => ?_;cases h; exact (.p _)
 apply iU h <;> intro h
 ·refine cP h Qh p2 fun v5 h => ?_;cases h; exact (.p _)
 apply iU h <;> intro h
 ·refine cP h Qh p2 fun v8 h => ?_;cases h; exact (.p _)
 apply iU h <;> intro h
 ·refine cP h Q3s p1 fun v11 h => ?_;cases h; exact (.p _)
 refine cP h Q27 p1 fun v13 h => ?_;refine iL h fun h => ?_;refine cP h Q27 p1 fun v16 h => ?_;refine kU h fun h => ?_;cases h; exact (.p _)
def Zg (N : Nat) (kind : Int) (l : List Qc) : Nat → Int → (List Int) → (List Int) → Option ((List UInt8) × Int)
 | 0, _, _, _ => none
 | n + 1, s107, l108, l109 =>
  cond (Q3 .lss s107 ((Q8 Qc.cells l).length : Int))
  ((idx l s107).bind fun y111 =>
  optC (Q7c F_prop_rules_tab y111.ID) (fun m113 =>
  (Q0v N m113 kind y111).bind fun v115 =>
  cond (Q3 .neq v115 0)
  (some ([], v115))
  (cond (decide (0 ≤ y111.ID) && decide (y111.ID < ((64 : Nat) : Int))) ((idx (l108 : List Int) y111.ID).bind fun y118 =>
  (idx (l108 : List Int) y111.ID).bind fun y121 =>
  (idx (((l108 : List Int).set (Int.toNat y111.ID) (wrap .i64 (y118 + 1))) : List Int) y111.ID).bind fun y123 =>
  cond (Q3 .gtr y123 1)
  ((Q2f N kind y111.ID).bind fun v126 =>
  cond (!v126)
  (some ([], 9))
  (cond (Nat.ble ((l109.length + 1 + 4096) * 1) 17592186044416) ((G6 N m113.shape y111).bind fun v130 =>
  cond (Nat.beq v130.length 0)
  (Zg N kind l n (wrap .i64 (s107 + 1)) ((l108 : List Int).set (Int.toNat y111.ID) (wrap .i64 (y118 + 1))) (l109 ++ [(wrap .u8 y111.ID)]))
  (cond (Nat.ble (((l109.length + 1) + v130.length + 4096) * 1) 17592186044416) (Zg N kind l n (wrap .i64 (s107 + 1)) ((l108 : List Int).set (Int.toNat y111.ID) (wrap .i64 (y118 + 1))) ((l109 ++ [(wrap .u8 y111.ID)]) ++ (v130.map fun b => (b.toNat : Int)))) none)) none))
  (cond (Nat.ble ((l109.length + 1 + 4096) * 1) 17592186044416) ((G6 N m113.shape y111).bind fun v135 =>
  cond (Nat.beq v135.length 0)
  (Zg N kind l n (wrap .i64 (s107 + 1)) ((l108 : List Int).set (Int.toNat y111.ID) (wrap .i64 (y118 + 1))) (l109 ++ [(wrap .u8 y111.ID)]))
  (cond (Nat.ble (((l109.length + 1) + v135.length + 4096) * 1) 17592186044416) (Zg N kind l n (wrap .i64 (s107 + 1)) ((l108 : List Int).set (Int.toNat y111.ID) (wrap .i64 (y118 + 1))) ((l109 ++ [(wrap .u8 y111.ID)]) ++ (v135.map fun b => (b.toNat : Int)))) none)) none)) none))
  ((Q0v N (⟨0, 0, 0, 0⟩ : Qm) kind y111).bind fun v139 =>
  cond (Q3 .neq v139 0)
  (some ([], v139))
  (cond (decide (0 ≤ y111.ID) && decide (y111.ID < ((64 : Nat) : Int))) ((idx (l108 : List Int) y111.ID).bind fun y142 =>
  (idx (l108 : List Int) y111.ID).bind fun y145 =>
  (idx (((l108 : List Int).set (Int.toNat y111.ID) (wrap .i64 (y142 + 1))) : List Int) y111.ID).bind fun y147 =>
  cond (Q3 .gtr y147 1)
  ((Q2f N kind y111.ID).bind fun v150 =>
  cond (!v150)
  (some ([], 9))
  (cond (Nat.ble ((l109.length + 1 + 4096) * 1) 17592186044416) ((G6 N 0 y111).bind fun v154 =>
  cond (Nat.beq v154.length 0)
  (Zg N kind l n (wrap .i64 (s107 + 1)) ((l108 : List Int).set (Int.toNat y111.ID) (wrap .i64 (y142 + 1))) (l109 ++ [(wrap .u8 y111.ID)]))
  (cond (Nat.ble (((l109.length + 1) + v154.length + 4096) * 1) 17592186044416) (Zg N kind l n (wrap .i64 (s107 + 1)) ((l108 : List Int).set (Int.toNat y111.ID) (wrap .i64 (y142 + 1))) ((l109 ++ [(wrap .u8 y111.ID)]) ++ (v154.map fun b => (b.toNat : Int)))) none)) none))
  (cond (Nat.ble ((l109.length + 1 + 4096) * 1) 17592186044416) ((G6 N 0 y111).bind fun v159 =>
  cond (Nat.beq v159.length 0)
  (Zg N kind l n (wrap .i64 (s107 + 1)) ((l108 : List Int).set (Int.toNat y111.ID) (wrap .i64 (y142 + 1))) (l109 ++ [(wrap .u8 y111.ID)]))
  (cond (Nat.ble (((l109.length + 1) + v159.length + 4096) * 1) 17592186044416) (Zg N kind l n (wrap .i64 (s107 + 1)) ((l108 : List Int).set (Int.toNat y111.ID) (wrap .i64 (y142 + 1))) ((l109 ++ [(wrap .u8 y111.ID)]) ++ (v159.map fun b => (b.toNat : Int)))) none)) none)) none)))
  ((idx (l108 : List Int) 22).bind fun y163 =>
  cond (Q3 .gtr y163 0)
  ((idx (l108 : List Int) 21).bind fun y166 =>
  cond (Q3 .eql y166 0)
  (some ([], 9))
  ((Jo N (l109.length : Int)).bind fun v169 =>
  cond (Q3 .neq v169.2 0)
  (some ([], 4))
  (cond (Nat.ble (v169.1.length + (l109.map fun n => UInt8.ofNat n.toNat).length) 4611686018427387904) (some ((v169.1 ++ (l109.map fun n => UInt8.ofNat n.toNat)), 0)) none)))
  ((Jo N (l109.length : Int)).bind fun v173 =>
  cond (Q3 .neq v173.2 0)
  (some ([], 4))
  (cond (Nat.ble (v173.1.length + (l109.map fun n => UInt8.ofNat n.toNat).length) 4611686018427387904) (some ((v173.1 ++ (l109.map fun n => UInt8.ofNat n.toNat)), 0)) none)))
def Wm (N : Nat) (kind : Int) (l : List Qc) : Option ((List UInt8) × Int) :=
 cond (Q3 .gtr ((Q8 Qc.cells l).length : Int) 1000)
 (some ([], 4))
 (Zg N kind l N 0 [0, 0, 0, 0, 0, 0, 0, 0, 0, 0, 0, 0, 0, 0, 0, 0, 0, 0, 0, 0, 0, 0, 0, 0, 0, 0, 0, 0, 0, 0, 0, 0, 0, 0, 0, 0, 0, 0, 0, 0, 0, 0, 0, 0, 0, 0, 0, 0, 0, 0, 0, 0, 0, 0, 0, 0, 0, 0, 0, 0, 0, 0, 0, 0] [])
theorem Ve {N} {kind} {l} {r} (h : Wm N kind l = some r) : pU 73 [.int .i64 kind, .slice 4 (Q8 Qc.cells l)] (.tuple [.str r.1, .int .i64 r.2]) := by
 refine Q2 k73 ?_;unfold Wm at h;rw [cX] at h;refine iL2 h fun h => ?_;refine Wu Qfp .nil ?_;refine lpA (τ := Int × (List Int) × (List Int)) (fun ⟨s107, _, l109⟩ => (iI kind :: a4 (.any :: .p (.pmap (Z2r (fun v => .agg (Qm.cells v)) F_prop_rules_tab)) :: .ptr 0 0 :: .slice 1 1 0 l109.length :: a8 (a2 (.p (.slice 4 (Q8 Qc.cells l)) :: iI ((Q8 Qc.cells l).length : Int) :: iI s107 :: a16 (a16 (a8 (a2 (.any :: []))))))) : List AV)) (fun ⟨_, l108, l109⟩ => (.cells (Qu (cI .i64) l108) :: .cells (Qu (cI .u8) l109) :: [] : List AObj)) (fun n0 ⟨s107, l108, l109⟩ => Zg N kind l n0 s107 l108 l109) (0, [0, 0, 0, 0, 0, 0, 0, 0, 0, 0, 0, 0, 0, 0, 0, 0, 0, 0, 0, 0, 0, 0, 0, 0, 0, 0, 0, 0, 0, 0, 0, 0, 0, 0, 0, 0, 0, 0, 0, 0, 0, 0, 0, 0, 0, 0, 0, 0, 0, 0, 0, 0, 0, 0, 0, 0, 0, 0, 0, 0, 0, 0, 0, 0], []) h fun n0 ⟨s107, l108, l109⟩ h => ?_
 first | rw [Zg] at h | simp only [Zg] at h
 rw [cX] at h;apply iU h <;> intro h
 ·refine xR h fun y111 h => ?_;refine Qun h (fun m113 hm114 h => ?_) (fun hm114 h => ?_)
  ·refine cP h Q8i (.cons q4 (.cons (.p _) (.cons q4 .nil))) fun v115 h => ?_;refine iL2 h fun h => ?_;refine Qi k88 ?_;refine Qa ?_;obtain ⟨hk120, h⟩ := Q4u h;refine Js hk120 ?_;obtain ⟨y118, hy119, h⟩ := U1 h
   refine Q32 (c := (cI .i64)) (e := 1) (fun _ => rfl) hy119 (off := 0) (by decide) (by first | omega | (simp only [Jq, orI, Qc7, W8, Gy, Q4m]; omega)) ?_
   refine Js hk120 ?_;obtain ⟨y121, hy122, h⟩ := U1 h;refine Js (Jb (c := (cI .i64)) (e := 1) (fun _ => rfl) hy122 (off := 0) (by omega) rfl (by decide)) ?_
   refine Jc (c := (cI .i64)) (e := 1) (fun _ => rfl) hy122 (wrap .i64 (y118 + 1)) (off := 0) (by first | omega | (simp only [Jq, orI, Qc7, W8, Gy, Q4m]; omega)) rfl (by simp) ?_
   refine Js hk120 ?_;obtain ⟨y123, hy124, h⟩ := U1 h
   refine Q32 (c := (cI .i64)) (e := 1) (fun _ => rfl) hy124 (off := 0) (by decide) (by first | omega | (simp only [Jq, orI, Qc7, W8, Gy, Q4m]; omega)) ?_
   apply iU h <;> intro h
   ·refine cP h Q8u p2 fun v126 h => ?_;refine iL2 h fun h => ?_;refine Qa ?_;obtain ⟨hk129, h⟩ := Q4u h;refine Js (Xe (c := (cI .u8)) (e := 1) (fun _ => rfl) sd hk129) ?_;refine Uy (c := (cI .u8)) [(wrap .u8 y111.ID)] rfl ?_;refine cD h Q2t (.cons (.p _) (.cons q4 .nil)) fun v130 h => ?_;refine Q41 (b := v130) ?_;apply iU h <;> intro h
    ·show Exists _;exact ⟨(n0, (wrap .i64 (s107 + 1)), ((l108 : List Int).set (Int.toNat y111.ID) (wrap .i64 (y118 + 1))), (l109 ++ [(wrap .u8 y111.ID)])), h, Le _, (rho [0, 5]), Z6⟩
    obtain ⟨hk133, h⟩ := Q4u h;refine Js (Xe (c := (cI .u8)) (e := 1) (l := (l109 ++ [(wrap .u8 y111.ID)])) (fun _ => rfl) sd hk133) ?_;refine Uy (c := (cI .u8)) (l := (l109 ++ [(wrap .u8 y111.ID)])) (v130.map fun b => (b.toNat : Int)) rfl ?_;show Exists _;exact ⟨(n0, (wrap .i64 (s107 + 1)), ((l108 : List Int).set (Int.toNat y111.ID) (wrap .i64 (y118 + 1))), ((l109 ++ [(wrap .u8 y111.ID)]) ++ (v130.map fun b => (b.toNat : Int)))), h, Le _, (rho [0, 6]), Z6⟩
   refine Qa ?_;obtain ⟨hk134, h⟩ := Q4u h;refine Js (Xe (c := (cI .u8)) (e := 1) (fun _ => rfl) sd hk134) ?_;refine Uy (c := (cI .u8)) [(wrap .u8 y111.ID)] rfl ?_;refine cD h Q2t (.cons (.p _) (.cons q4 .nil)) fun v135 h => ?_;refine Q41 (b := v135) ?_;apply iU h <;> intro h
   ·show Exists _;exact ⟨(n0, (wrap .i64 (s107 + 1)), ((l108 : List Int).set (Int.toNat y111.ID) (wrap .i64 (y118 + 1))), (l109 ++ [(wrap .u8 y111.ID)])), h, Le _, (rho [0, 5]), Z6⟩
   obtain ⟨hk138, h⟩ := Q4u h;refine Js (Xe (c := (cI .u8)) (e := 1) (l := (l109 ++ [(wrap .u8 y111.ID)])) (fun _ => rfl) sd hk138) ?_;refine Uy (c := (cI .u8)) (l := (l109 ++ [(wrap .u8 y111.ID)])) (v135.map fun b => (b.toNat : Int)) rfl ?_;show Exists _;exact ⟨(n0, (wrap .i64 (s107 + 1)), ((l108 : List Int).set (Int.toNat y111.ID) (wrap .i64 (y118 + 1))), ((l109 ++ [(wrap .u8 y111.ID)]) ++ (v135.map fun b => (b.toNat : Int)))), h, Le _, (rho [0, 6]), Z6⟩
  refine cP h Q8i (.cons q4 (.cons (.p _) (.cons q4 .nil))) fun v139 h => ?_;refine iL2 h fun h => ?_;refine Qi k88 ?_;refine Qa ?_;obtain ⟨hk144, h⟩ := Q4u h;refine Js hk144 ?_;obtain ⟨y142, hy143, h⟩ := U1 h
  refine Q32 (c := (cI .i64)) (e := 1) (fun _ => rfl) hy143 (off := 0) (by decide) (by first | omega | (simp only [Jq, orI, Qc7, W8, Gy, Q4m]; omega)) ?_
  refine Js hk144 ?_;obtain ⟨y145, hy146, h⟩ := U1 h;refine Js (Jb (c := (cI .i64)) (e := 1) (fun _ => rfl) hy146 (off := 0) (by omega) rfl (by decide)) ?_
  refine Jc (c := (cI .i64)) (e := 1) (fun _ => rfl) hy146 (wrap .i64 (y142 + 1)) (off := 0) (by first | omega | (simp only [Jq, orI, Qc7, W8, Gy, Q4m]; omega)) rfl (by simp) ?_
  refine Js hk144 ?_;obtain ⟨y147, hy148, h⟩ := U1 h
  refine Q32 (c := (cI .i64)) (e := 1) (fun _ => rfl) hy148 (off := 0) (by decide) (by first | omega | (simp only [Jq, orI, Qc7, W8, Gy, Q4m]; omega)) ?_
  apply iU h <;> intro h
  ·refine cP h Q8u p2 fun v150 h => ?_;refine iL2 h fun h => ?_;refine Qa ?_;obtain ⟨hk153, h⟩ := Q4u h;refine Js (Xe (c := (cI .u8)) (e := 1) (fun _ => rfl) sd hk153) ?_;refine Uy (c := (cI .u8)) [(wrap .u8 y111.ID)] rfl ?_;refine cD h Q2t (.cons (.p _) (.cons q4 .nil)) fun v154 h => ?_;refine Q41 (b := v154) ?_;apply iU h <;> intro h
   ·show Exists _;exact ⟨(n0, (wrap .i64 (s107 + 1)), ((l108 : List Int).set (Int.toNat y111.ID) (wrap .i64 (y142 + 1))), (l109 ++ [(wrap .u8 y111.ID)])), h, Le _, (rho [0, 5]), Z6⟩
   obtain ⟨hk157, h⟩ := Q4u h;refine Js (Xe (c := (cI .u8)) (e := 1) (l := (l109 ++ [(wrap .u8 y111.ID)])) (fun _ => rfl) sd hk157) ?_;refine Uy (c := (cI .u8)) (l := (l109 ++ [(wrap .u8 y111.ID)])) (v154.map fun b => (b.toNat : Int)) rfl ?_;show Exists _;exact ⟨(n0, (wrap .i64 (s107 + 1)), ((l108 : List Int).set (Int.toNat y111.ID) (wrap .i64 (y142 + 1))), ((l109 ++ [(wrap .u8 y111.ID)]) ++ (v154.map fun b => (b.toNat : Int)))), h, Le _, (rho [0, 6]), Z6⟩
  refine Qa ?_;obtain ⟨hk158, h⟩ := Q4u h;refine Js (Xe (c := (cI .u8)) (e := 1) (fun _ => rfl) sd hk158) ?_;refine Uy (c := (cI .u8)) [(wrap .u8 y111.ID)] rfl ?_;refine cD h Q2t (.cons (.p _) (.cons q4 .nil)) fun v159 h => ?_;refine Q41 (b := v159) ?_;apply iU h <;> intro h
  ·show Exists _;exact ⟨(n0, (wrap .i64 (s107 + 1)), ((l108 : List Int).set (Int.toNat y111.ID) (wrap .i64 (y142 + 1))), (l109 ++ [(wrap .u8 y111.ID)])), h, Le _, (rho [0, 5]), Z6⟩
  obtain ⟨hk162, h⟩ := Q4u h;refine Js (Xe (c := (cI .u8)) (e := 1) (l := (l109 ++ [(wrap .u8 y111.ID)])) (fun _ => rfl) sd hk162) ?_;refine Uy (c := (cI .u8)) (l := (l109 ++ [(wrap .u8 y111.ID)])) (v159.map fun b => (b.toNat : Int)) rfl ?_;show Exists _;exact ⟨(n0, (wrap .i64 (s107 + 1)), ((l108 : List Int).set (Int.toNat y111.ID) (wrap .i64 (y142 + 1))), ((l109 ++ [(wrap .u8 y111.ID)]) ++ (v159.map fun b => (b.toNat : Int)))), h, Le _, (rho [0, 6]), Z6⟩
 refine Qi k90 ?_;obtain ⟨y163, hy164, h⟩ := U1 h;refine Q32 (c := (cI .i64)) (e := 1) (n := 1) (j := 22) (fun _ => rfl) hy164 (off := 0) (by decide) rfl ?_;apply iU h <;> intro h
 ·obtain ⟨y166, hy167, h⟩ := U1 h;refine Q32 (c := (cI .i64)) (e := 1) (n := 1) (j := 21) (fun _ => rfl) hy167 (off := 0) (by decide) rfl ?_;refine iL2 h fun h => ?_;refine cP h Q3s p1 fun v169 h => ?_;refine iL2 h fun h => ?_;refine Qhd (l := l109) (n := l109.length) sd ?_;refine kU h fun h => ?_;obtain rfl := Qd h; exact u2
 refine cP h Q3s p1 fun v173 h => ?_;refine iL2 h fun h => ?_;refine Qhd (l := l109) (n := l109.length) sd ?_;refine kU h fun h => ?_;obtain rfl := Qd h; exact u2
def Zy (N : Nat) (kind : Int) (l : List Qc) : Option Int :=
 (Wm N kind l).bind fun v1 =>
 some v1.2
theorem Yk {N} {kind} {l} {r} (h : Zy N kind l = some r) : pU 55 [.int .i64 kind, .slice 4 (Q8 Qc.cells l)] (.int .i64 r) := by
 refine Q2 k55 ?_;unfold Zy at h;refine cP h Ve p2 fun v1 h => ?_;cases h; exact (.p _)
def Q0k (N : Nat) (version : Int) (p : Q9) : Option Int :=
 (Q0c N version p.Kind).bind fun v1 =>
 cond (Q3 .neq v1 0)
 (some v1)
 ((Gs N version p.Kind).bind fun v4 =>
 cond v4.1
 ((G7 N p.Kind p.Code).bind fun v7 =>
 cond (!v7)
 (some 2)
 ((Za N p (⟨p.Kind, false, false, 0, 0, [], [], false, 0, [], false, [], false, [], false, (⟨[], [], 0, false, []⟩ : Q0y), false, p.Code, [], [], p.Props⟩ : Q9)).bind fun v10 =>
 cond (!v10)
 (some 2)
 ((Zy N p.Kind p.Props).bind fun v13 =>
 some v13)))
 ((Za N p (⟨p.Kind, false, false, 0, 0, [], [], false, 0, [], false, [], false, [], false, (⟨[], [], 0, false, []⟩ : Q0y), false, 0, [], [], []⟩ : Q9)).bind fun v15 =>
 cond (!v15)
 (some 2)
 ((Zy N p.Kind p.Props).bind fun v18 =>
 some v18)))
theorem Qcd {N} {version} {p} {r} (h : Q0k N version p = some r) : pU 212 [.int .i64 version, .agg (Q9.cells p)] (.int .i64 r) := by
 refine Q2 Zag ?_;unfold Q0k at h;rw [cX] at h;refine cP h Qcg p2 fun v1 h => ?_;refine iL h fun h => ?_;refine cP h Q75 p2 fun v4 h => ?_;apply iU h <;> intro h
 ·refine cP h Q0o p2 fun v7 h => ?_;refine iL h fun h => ?_;refine Qa ?_;refine cP h Qv (.cons (Frz.agg' (Yj (f2_ (f1_ (.cons (.p _) p5))))) (.cons (Frz.agg' (Yj (f2_ (f1_ (.cons (.nil _) (f2_ (.cons (.nil _) (.cons (.nil _) p1)))))))) .nil)) fun v10 h => ?_;refine iL h fun h => ?_;refine cP h Yk p2 fun v13 h => ?_;cases h; exact (.p _)
 refine cP h Qv (.cons (Frz.agg' (Yj (f2_ (f1_ (.cons (.p _) p5))))) (.cons (Frz.agg' (Yj (f2_ (f1_ (.cons (.nil _) (f2_ (.cons (.nil _) (.cons (.nil _) (.cons (.nil _) .nil))))))))) .nil)) fun v15 h => ?_;refine iL h fun h => ?_;refine cP h Yk p2 fun v18 h => ?_;cases h; exact (.p _)
def Q3v (N : Nat) (code : Int) (l : List Qc) (kind : Int) : Option (List UInt8) :=
 (Wm N kind l).bind fun v1 =>
 cond (Q3 .lss code 0)
 (some [])
 (cond (Q3 .gtr code 255)
 (some [])
 (cond (Q3 .neq v1.2 0)
 (some [])
 ((Qo N (wrap .u64 code) 1).bind fun v6 =>
 cond (Q3 .gtr ((Q8 Qc.cells l).length : Int) 0)
 (cond (Nat.ble (v6.length + v1.1.length) 4611686018427387904) (some (v6 ++ v1.1)) none)
 (cond (Q3 .gtr code 0)
 (some v6)
 (some [])))))
theorem Qcs {N} {code} {l} {kind} {r} (h : Q3v N code l kind = some r) : pU 213 [.int .i64 code, .slice 4 (Q8 Qc.cells l), .int .i64 kind] (.str r) := by
 refine Q2 Zfg ?_;unfold Q3v at h;rw [cX] at h;refine cP h Ve p2 fun v1 h => ?_;refine iL h fun h => ?_;refine iL h fun h => ?_;refine iL h fun h => ?_;refine cP h Qh p2 fun v6 h => ?_;apply iU h <;> intro h
 ·refine kU h fun h => ?_;cases h; exact (.p _)
 exact iB h
def Q1p (N : Nat) (version : Int) (p : Q9) : Option ((List UInt8) × Int) :=
 (Q0k N version p).bind fun v1 =>
 cond (Q3 .neq v1 0)
 (some ([], v1))
 ((Q3v N p.Code p.Props p.Kind).bind fun v4 =>
 some (v4, 0))
theorem Qd6 {N} {version} {p} {r} (h : Q1p N version p = some r) : pU 163 [.int .i64 version, .agg (Q9.cells p)] (.tuple [.str r.1, .int .i64 r.2]) := by
 refine Q2 Z7t ?_;unfold Q1p at h;rw [cX] at h;refine cP h Qcd (.cons (.p _) (.cons (Frz.agg' (Yj (f2_ (f1_ (.cons (.p _) p5))))) .nil)) fun v1 h => ?_;refine iL2 h fun h => ?_;refine cP h Qcs p3 fun v4 h => ?_;obtain rfl := Qd h; exact u2
def Yo (N : Nat) (d : Z9) : Option ((List UInt8) × Int) :=
 (Q1p N d.version d.p).bind fun v1 =>
 some (v1.1, v1.2)
theorem U8 {N} {d} {r} (h : Yo N d = some r) : pU 128 [.agg (Z9.cells d)] (.tuple [.str r.1, .int .i64 r.2]) := by
 refine Q2 Zc8 ?_;unfold Yo at h;refine cP h Qd6 (.cons (.p _) (.cons (Frz.agg' (Yj (f2_ (f1_ (.cons (.p _) p5))))) .nil)) fun v1 h => ?_;obtain rfl := Qd h; exact u2
def Q65 (_N : Nat) (version : Int) (kind : Int) : Option Bool :=
 cond (Q3 .eql version 5)
 (cond (Q3 .geq kind 1)
 (some (Q3 .leq kind 15))
 (some false))
 (cond (Q3 .geq kind 1)
 (some (Q3 .leq kind 14))
 (some false))
theorem Qfc {N} {version} {kind} {r} (h : Q65 N version kind = some r) : pU 264 [.int .i64 version, .int .i64 kind] (.bool r) := by
 refine Q2 Zf4 ?_;unfold Q65 at h;rw [cX] at h;apply iU h <;> intro h
 ·exact iB h
 exact iB h
def Q67 (_N : Nat) (kind : Int) : Option Int :=
 cond (Q3 .eql kind 6)
 (some 2)
 (cond (Q3 .eql kind 8)
 (some 2)
 (cond (Q3 .eql kind 10)
 (some 2)
 (some 0)))
theorem Qfw {N} {kind} {r} (h : Q67 N kind = some r) : pU 301 [.int .i64 kind] (.int .i64 r) := by
 refine Q2 Z8u ?_;unfold Q67 at h;rw [cX] at h;refine ifO h (fun hc1 h => ?_) (fun hc1 h => ?_)
 ·refine ifT hc1 ?_;cases h; exact (.p _)
 refine ifO h (fun hc2 h => ?_) (fun hc2 h => ?_)
 ·refine ifT hc2 ?_;cases h; exact (.p _)
 exact iB h
def Q6b (_N : Nat) (version : Int) : Option Bool :=
 cond (Q3 .eql version 4)
 (some true)
 (some (Q3 .eql version 5))
theorem Qfn {N} {version} {r} (h : Q6b N version = some r) : pU 263 [.int .i64 version] (.bool r) := by
 refine Q2 Zcn ?_;unfold Q6b at h;rw [cX] at h;exact iB h
def Q29 (N : Nat) (version : Int) (p : Q9) : Option (Int × Int) :=
 (Q6b N version).bind fun v1 =>
 cond (!v1)
 (some (0, 2))
 ((Q65 N version p.Kind).bind fun v4 =>
 cond (!v4)
 (some (0, 8))
 (cond (Q3 .neq p.Kind 3)
 ((Q67 N p.Kind).bind fun v8 =>
 some (v8, 0))
 (cond (Q3 .lss p.QoS 0)
 (some (0, 7))
 (cond (Q3 .gtr p.QoS 2)
 (some (0, 7))
 (cond (Q3 .eql p.QoS 0)
 (cond p.Dup
 (some (0, 7))
 (cond p.Retain
 (some ((orI .i64 (wrap .i64 (p.QoS * 2)) 1), 0))
 (some ((wrap .i64 (p.QoS * 2)), 0))))
 (cond p.Retain
 (cond p.Dup
 (some ((orI .i64 (orI .i64 (wrap .i64 (p.QoS * 2)) 1) 8), 0))
 (some ((orI .i64 (wrap .i64 (p.QoS * 2)) 1), 0)))
 (cond p.Dup
 (some ((orI .i64 (wrap .i64 (p.QoS * 2)) 8), 0))
 (some ((wrap .i64 (p.QoS * 2)), 0)))))))))
theorem Q8s {N} {version} {p} {r} (h : Q29 N version p = some r) : pU 257 [.int .i64 version, .agg (Q9.cells p)] (.tuple [.int .i64 r.1, .int .i64 r.2]) := by
 refine Q2 Zco ?_;unfold Q29 at h;rw [cX] at h;refine cP h Qfn p1 fun v1 h => ?_;refine iL2 h fun h => ?_;refine cP h Qfc p2 fun v4 h => ?_;refine iL2 h fun h => ?_;apply iU h <;> intro h
 ·refine cP h Qfw p1 fun v8 h => ?_;obtain rfl := Qd h; exact u2
 refine iL2 h fun h => ?_;refine iL2 h fun h => ?_;apply iU h <;> intro h
 ·refine oL2 h fun hc13 h => ?_;apply iU h <;> intro h
  ·refine ifF hc13 ?_;obtain rfl := Qd h; exact u2
  refine ifF hc13 ?_;obtain rfl := Qd h; exact u2
 apply iU h <;> intro h
 ·exact iB2 h
 exact iB2 h
def J1 (N : Nat) (version : Int) (p : Q9) : Option Bool :=
 (Za N p (⟨p.Kind, p.Dup, p.Retain, p.QoS, p.ID, p.Topic, p.Payload, false, 0, [], false, [], false, [], false, (⟨[], [], 0, false, []⟩ : Q0y), false, 0, [], [], p.Props⟩ : Q9)).bind fun v1 =>
 cond (!v1)
 (some false)
 (cond (Q3 .eql version 4)
 (cond (Q3 .gtr ((Q8 Qc.cells p.Props).length : Int) 0)
 (some false)
 (cond (Q3 .eql p.QoS 0)
 (some (Q3 .eql p.ID 0))
 (cond (Q3 .gtr p.ID 0)
 (some (Q3 .lss p.ID 65536))
 (some false))))
 (cond (Q3 .eql p.QoS 0)
 (some (Q3 .eql p.ID 0))
 (cond (Q3 .gtr p.ID 0)
 (some (Q3 .lss p.ID 65536))
 (some false))))
theorem Q5f {N} {version} {p} {r} (h : J1 N version p = some r) : pU 259 [.int .i64 version, .agg (Q9.cells p)] (.bool r) := by
 refine Q2 Zeh ?_;unfold J1 at h;rw [cX] at h;refine cP h Qv (.cons (Frz.agg' (Yj (f2_ (f1_ (.cons (.p _) p5))))) (.cons (Frz.agg' (Yj (f2_ (f1_ (.cons (.nil _) (f2_ (.cons (.nil _) (.cons (.nil _) p1)))))))) .nil)) fun v1 h => ?_;refine iL h fun h => ?_;apply iU h <;> intro h
 ·refine iL h fun h => ?_;refine iL h fun h => ?_;exact iB h
 refine iL h fun h => ?_;exact iB h
def Wb (_N : Nat) (is : Bool) (e : Int) : Option Int :=
 cond is
 (some e)
 (some 0)
theorem Uf {N} {is} {e} {r} (h : Wb N is e = some r) : pU 255 [.bool is, .int .i64 e] (.int .i64 r) := by
 refine Q2 Z69 ?_;unfold Wb at h;exact iB h
def Gb (N : Nat) (l : List Qc) (id : Int) : Nat → Int → Option (Qc × Bool)
 | 0, _ => none
 | n + 1, s10 =>
  cond (Q3 .lss s10 ((Q8 Qc.cells l).length : Int))
  ((idx l s10).bind fun y12 =>
  cond (Q3 .eql y12.ID id)
  (some (y12, true))
  (Gb N l id n (wrap .i64 (s10 + 1))))
  (some ((⟨0, 0, [], []⟩ : Qc), false))
def Q54 (N : Nat) (l : List Qc) (id : Int) : Option (Qc × Bool) :=
 Gb N l id N 0
theorem Qjg {N} {l} {id} {r} (h : Q54 N l id = some r) : pU 332 [.slice 4 (Q8 Qc.cells l), .int .i64 id] (.tuple [.agg (Qc.cells r.1), .bool r.2]) := by
 refine Q2 Zef ?_;unfold Q54 at h;refine lpH (τ := Int) (fun s10 => (.any :: iI id :: .any :: .any :: .ptr 0 0 :: a2 (.any :: .p (.slice 4 (Q8 Qc.cells l)) :: iI ((Q8 Qc.cells l).length : Int) :: iI s10 :: a8 (a2 ([]))) : List AV)) (fun n0 s10 => Gb N l id n0 s10) (0) h fun n0 s10 h => ?_
 first | rw [Gb] at h | simp only [Gb] at h
 rw [cX] at h;apply iU h <;> intro h
 ·refine xR h fun y12 h => ?_;apply iU h <;> intro h
  ·obtain rfl := Qd h; exact (Frz.tuple' (.cons q4 p1))
  show Exists _;exact ⟨(n0, (wrap .i64 (s10 + 1))), h, Le _, (fun i => i), Z6⟩
 obtain rfl := Qd h; exact (Frz.tuple' (.cons q4 p1))
def Q2k (N : Nat) (p : Q9) : Option (Int × Bool) :=
 (Q54 N p.Props 35).bind fun v1 =>
 some ((wrap .i64 v1.1.N'), v1.2)
theorem Qb8 {N} {p} {r} (h : Q2k N p = some r) : pU 302 [.agg (Q9.cells p)] (.tuple [.int .i64 r.1, .bool r.2]) := by
 refine Q2 Zet ?_;unfold Q2k at h;refine cP h Qjg p2 fun v1 h => ?_;obtain rfl := Qd h; exact u2
def Ju (N : Nat) (version : Int) (p : Q9) : Option Bool :=
 (Q2k N p).bind fun v1 =>
 (Zf N p.Topic).bind fun v3 =>
 cond v3
 (some true)
 (cond (Q3 .eql version 5)
 (cond v1.2
 (some (Q4s .eql p.Topic []))
 (some false))
 (some false))
theorem Q61 {N} {version} {p} {r} (h : Ju N version p = some r) : pU 261 [.int .i64 version, .agg (Q9.cells p)] (.bool r) := by
 refine Q2 Za8 ?_;unfold Ju at h;rw [cX, cY] at h;refine cP h Qb8 (.cons (Frz.agg' (Yj (f2_ (f1_ (.cons (.p _) p5))))) .nil) fun v1 h => ?_;refine cP h Ym p1 fun v3 h => ?_;refine iL h fun h => ?_;refine iR h fun h => ?_;exact iB h
def Q0r (_N : Nat) (version : Int) : Option Bool :=
 cond (Q3 .eql version 4)
 (some true)
 (some (Q3 .eql version 5))
theorem Qbg {N} {version} {r} (h : Q0r N version = some r) : pU 218 [.int .i64 version] (.bool r) := by
 refine Q2 Z6w ?_;unfold Q0r at h;rw [cX] at h;exact iB h
def Gz (N : Nat) (version : Int) (p : Q9) : Option Int :=
 (Q0r N version).bind fun v1 =>
 cond (!v1)
 ((Wb N true 2).bind fun v4 =>
 cond (Q3 .neq v4 0)
 (some v4)
 ((Q29 N version p).bind fun v7 =>
 cond (Q3 .neq v7.2 0)
 (some v7.2)
 ((J1 N version p).bind fun v10 =>
 (Wb N (!v10) 2).bind fun v12 =>
 cond (Q3 .neq v12 0)
 (some v12)
 ((Ju N version p).bind fun v15 =>
 (Wb N (!v15) 10).bind fun v17 =>
 cond (Q3 .neq v17 0)
 (some v17)
 ((Zy N 3 p.Props).bind fun v20 =>
 cond (Q3 .neq v20 0)
 (some v20)
 (some 0))))))
 ((Wb N (Q3 .neq p.Kind 3) 2).bind fun v23 =>
 cond (Q3 .neq v23 0)
 (some v23)
 ((Q29 N version p).bind fun v26 =>
 cond (Q3 .neq v26.2 0)
 (some v26.2)
 ((J1 N version p).bind fun v29 =>
 (Wb N (!v29) 2).bind fun v31 =>
 cond (Q3 .neq v31 0)
 (some v31)
 ((Ju N version p).bind fun v34 =>
 (Wb N (!v34) 10).bind fun v36 =>
 cond (Q3 .neq v36 0)
 (some v36)
 ((Zy N 3 p.Props).bind fun v39 =>
 cond (Q3 .neq v39 0)
 (some v39)
 (some 0))))))
theorem Qc3 {N} {version} {p} {r} (h : Gz N version p = some r) : pU 217 [.int .i64 version, .agg (Q9.cells p)] (.int .i64 r) := by
 refine Q2 Z8m ?_;unfold Gz at h;rw [cX] at h;refine Zb 7 ?_;refine dT ?_;refine Qi Zg3 ?_;refine cP h Qbg p1 fun v1 h => ?_;apply iU h <;> intro h
 ·refine cP h Uf p2 fun v4 h => ?_;refine iL h fun h => ?_;refine dT ?_;refine Qi Z51 ?_;refine cP h Q8s (.cons (.p _) (.cons (Frz.agg' (Yj (f2_ (f1_ (.cons (.p _) p5))))) .nil)) fun v7 h => ?_;refine iL h fun h => ?_;refine dT ?_;refine Qi Z4m ?_;refine cP h Q5f (.cons (.p _) (.cons (Frz.agg' (Yj (f2_ (f1_ (.cons (.p _) p5))))) .nil)) fun v10 h => ?_;refine cP h Uf p2 fun v12 h => ?_;refine iL h fun h => ?_;refine dT ?_;refine Qi Z4l ?_;refine cP h Q61 (.cons (.p _) (.cons (Frz.agg' (Yj (f2_ (f1_ (.cons (.p _) p5))))) .nil)) fun v15 h => ?_;refine cP h Uf p2 fun v17 h => ?_;refine iL h fun h => ?_;refine dT ?_;refine Qi Z47 ?_;refine cP h Yk p2 fun v20 h => ?_;refine iL h fun h => ?_;refine dF ?_;cases h; exact (.p _)
 refine cP h Uf p2 fun v23 h => ?_;refine iL h fun h => ?_;refine dT ?_;refine Qi Z51 ?_;refine cP h Q8s (.cons (.p _) (.cons (Frz.agg' (Yj (f2_ (f1_ (.cons (.p _) p5))))) .nil)) fun v26 h => ?_;refine iL h fun h => ?_;refine dT ?_;refine Qi Z4m ?_;refine cP h Q5f (.cons (.p _) (.cons (Frz.agg' (Yj (f2_ (f1_ (.cons (.p _) p5))))) .nil)) fun v29 h => ?_;refine cP h Uf p2 fun v31 h => ?_;refine iL h fun h => ?_;refine dT ?_;refine Qi Z4l ?_;refine cP h Q61 (.cons (.p _) (.cons (Frz.agg' (Yj (f2_ (f1_ (.cons (.p _) p5))))) .nil)) fun v34 h => ?_;refine cP h Uf p2 fun v36 h => ?_;refine iL h fun h => ?_;refine dT ?_;refine Qi Z47 ?_;refine cP h Yk p2 fun v39 h => ?_;refine iL h fun h => ?_;refine dF ?_;cases h; exact (.p _)
def Gt (N : Nat) (s_0 : List UInt8) : Option ((List UInt8) × Int) :=
 (Z5 N s_0).bind fun v1 =>
 cond (!v1)
 (some ([], 6))
 ((J3 N s_0).bind fun v4 =>
 some (v4, 0))
theorem Q6q {N} {s_0} {r} (h : Gt N s_0 = some r) : pU 205 [.str s_0] (.tuple [.str r.1, .int .i64 r.2]) := by
 refine Q2 Z6r ?_;unfold Gt at h;refine cP h Zq p1 fun v1 h => ?_;refine iL2 h fun h => ?_;refine cP h Q55 p1 fun v4 h => ?_;obtain rfl := Qd h; exact u2
def Q1k (N : Nat) (version : Int) (p : Q9) : Option ((List UInt8) × Int) :=
 (Gz N version p).bind fun v1 =>
 cond (Q3 .neq v1 0)
 (some ([], v1))
 ((Gt N p.Topic).bind fun v4 =>
 cond (Q3 .neq p.QoS 0)
 ((Qo N (wrap .u64 p.ID) 2).bind fun v7 =>
 cond (Nat.ble (v4.1.length + v7.length) 4611686018427387904) (cond (Q3 .eql version 5)
 ((Wm N p.Kind p.Props).bind fun v11 =>
 cond (Nat.ble ((v4.1 ++ v7).length + v11.1.length) 4611686018427387904) (cond (Nat.ble (((v4.1 ++ v7) ++ v11.1).length + p.Payload.length) 4611686018427387904) (some ((((v4.1 ++ v7) ++ v11.1) ++ p.Payload), 0)) none) none)
 (cond (Nat.ble ((v4.1 ++ v7).length + p.Payload.length) 4611686018427387904) (some (((v4.1 ++ v7) ++ p.Payload), 0)) none)) none)
 (cond (Q3 .eql version 5)
 ((Wm N p.Kind p.Props).bind fun v17 =>
 cond (Nat.ble (v4.1.length + v17.1.length) 4611686018427387904) (cond (Nat.ble ((v4.1 ++ v17.1).length + p.Payload.length) 4611686018427387904) (some (((v4.1 ++ v17.1) ++ p.Payload), 0)) none) none)
 (cond (Nat.ble (v4.1.length + p.Payload.length) 4611686018427387904) (some ((v4.1 ++ p.Payload), 0)) none)))
theorem Qct {N} {version} {p} {r} (h : Q1k N version p = some r) : pU 165 [.int .i64 version, .agg (Q9.cells p)] (.tuple [.str r.1, .int .i64 r.2]) := by
 refine Q2 Ze2 ?_;unfold Q1k at h;rw [cX] at h;refine cP h Qc3 (.cons (.p _) (.cons (Frz.agg' (Yj (f2_ (f1_ (.cons (.p _) p5))))) .nil)) fun v1 h => ?_;refine iL2 h fun h => ?_;refine cP h Q6q p1 fun v4 h => ?_;apply iU h <;> intro h
 ·refine cP h Qh p2 fun v7 h => ?_;refine kU h fun h => ?_;apply iU h <;> intro h
  ·refine cP h Ve p2 fun v11 h => ?_;refine kU h fun h => ?_;refine kU h fun h => ?_;obtain rfl := Qd h; exact u2
  refine kU h fun h => ?_;obtain rfl := Qd h; exact u2
 apply iU h <;> intro h
 ·refine cP h Ve p2 fun v17 h => ?_;refine kU h fun h => ?_;refine kU h fun h => ?_;obtain rfl := Qd h; exact u2
 refine kU h fun h => ?_;obtain rfl := Qd h; exact u2
def U4 (N : Nat) (d : Z9) : Option ((List UInt8) × Int) :=
 (Q1k N d.version d.p).bind fun v1 =>
 some (v1.1, v1.2)
theorem Q7j {N} {d} {r} (h : U4 N d = some r) : pU 130 [.agg (Z9.cells d)] (.tuple [.str r.1, .int .i64 r.2]) := by
 refine Q2 Zax ?_;unfold U4 at h;refine cP h Qct (.cons (.p _) (.cons (Frz.agg' (Yj (f2_ (f1_ (.cons (.p _) p5))))) .nil)) fun v1 h => ?_;obtain rfl := Qd h; exact u2
def Q1n (_N : Nat) (kind : Int) : Option Bool :=
 cond (Q3 .eql kind 1)
 (some true)
 (some (Q3 .eql kind 2))
theorem Qd8 {N} {kind} {r} (h : Q1n N kind = some r) : pU 192 [.int .i64 kind] (.bool r) := by
 refine Q2 Z82 ?_;unfold Q1n at h;rw [cX] at h;exact iB h
def Q07 (N : Nat) (p : Q9) : Option Bool :=
 cond (Q3 .eql p.Kind 2)
 ((Za N p (⟨p.Kind, false, false, 0, 0, [], [], false, 0, [], false, [], false, [], false, (⟨[], [], 0, false, []⟩ : Q0y), p.Session, p.Code, [], [], p.Props⟩ : Q9)).bind fun v2 =>
 some v2)
 (cond p.HasWill
 (cond p.HasUser
 (cond p.HasPass
 ((Za N p (⟨p.Kind, false, false, 0, 0, [], [], p.Clean, p.KeepAlive, p.Client, p.HasUser, p.User, p.HasPass, p.Pass, p.HasWill, p.Will, false, 0, [], [], p.Props⟩ : Q9)).bind fun v7 =>
 some v7)
 ((Za N p (⟨p.Kind, false, false, 0, 0, [], [], p.Clean, p.KeepAlive, p.Client, p.HasUser, p.User, p.HasPass, [], p.HasWill, p.Will, false, 0, [], [], p.Props⟩ : Q9)).bind fun v9 =>
 some v9))
 (cond p.HasPass
 ((Za N p (⟨p.Kind, false, false, 0, 0, [], [], p.Clean, p.KeepAlive, p.Client, p.HasUser, [], p.HasPass, p.Pass, p.HasWill, p.Will, false, 0, [], [], p.Props⟩ : Q9)).bind fun v12 =>
 some v12)
 ((Za N p (⟨p.Kind, false, false, 0, 0, [], [], p.Clean, p.KeepAlive, p.Client, p.HasUser, [], p.HasPass, [], p.HasWill, p.Will, false, 0, [], [], p.Props⟩ : Q9)).bind fun v14 =>
 some v14)))
 (cond p.HasUser
 (cond p.HasPass
 ((Za N p (⟨p.Kind, false, false, 0, 0, [], [], p.Clean, p.KeepAlive, p.Client, p.HasUser, p.User, p.HasPass, p.Pass, p.HasWill, (⟨[], [], 0, false, []⟩ : Q0y), false, 0, [], [], p.Props⟩ : Q9)).bind fun v18 =>
 some v18)
 ((Za N p (⟨p.Kind, false, false, 0, 0, [], [], p.Clean, p.KeepAlive, p.Client, p.HasUser, p.User, p.HasPass, [], p.HasWill, (⟨[], [], 0, false, []⟩ : Q0y), false, 0, [], [], p.Props⟩ : Q9)).bind fun v20 =>
 some v20))
 (cond p.HasPass
 ((Za N p (⟨p.Kind, false, false, 0, 0, [], [], p.Clean, p.KeepAlive, p.Client, p.HasUser, [], p.HasPass, p.Pass, p.HasWill, (⟨[], [], 0, false, []⟩ : Q0y), false, 0, [], [], p.Props⟩ : Q9)).bind fun v23 =>
 some v23)
 ((Za N p (⟨p.Kind, false, false, 0, 0, [], [], p.Clean, p.KeepAlive, p.Client, p.HasUser, [], p.HasPass, [], p.HasWill, (⟨[], [], 0, false, []⟩ : Q0y), false, 0, [], [], p.Props⟩ : Q9)).bind fun v25 =>
 some v25))))
theorem Qcb {N} {p} {r} (h : Q07 N p = some r) : pU 235 [.agg (Q9.cells p)] (.bool r) := by
 refine Q2 Zg8 ?_;unfold Q07 at h;rw [cX] at h;apply iU h <;> intro h
 ·refine Qa ?_;refine cP h Qv (.cons (Frz.agg' (Yj (f2_ (f1_ (.cons (.p _) p5))))) (.cons (Frz.agg' (Yj (f2_ (f1_ (.cons (.nil _) (f2_ (.cons (.nil _) (.cons (.nil _) p1)))))))) .nil)) fun v2 h => ?_;cases h; exact (.p _)
 refine Qa ?_;apply iU h <;> intro h
 ·apply iU h <;> intro h
  ·apply iU h <;> intro h
   ·refine cP h Qv (.cons (Frz.agg' (Yj (f2_ (f1_ (.cons (.p _) p5))))) (.cons (Frz.agg' (Yj (f4_ (f2_ (.cons (.nil _) (.cons (.nil _) p1)))))) .nil)) fun v7 h => ?_;cases h; exact (.p _)
   refine cP h Qv (.cons (Frz.agg' (Yj (f2_ (f1_ (.cons (.p _) p5))))) (.cons (Frz.agg' (Yj (f4_ (f2_ (.cons (.nil _) (.cons (.nil _) p1)))))) .nil)) fun v9 h => ?_;cases h; exact (.p _)
  apply iU h <;> intro h
  ·refine cP h Qv (.cons (Frz.agg' (Yj (f2_ (f1_ (.cons (.p _) p5))))) (.cons (Frz.agg' (Yj (f4_ (f2_ (.cons (.nil _) (.cons (.nil _) p1)))))) .nil)) fun v12 h => ?_;cases h; exact (.p _)
  refine cP h Qv (.cons (Frz.agg' (Yj (f2_ (f1_ (.cons (.p _) p5))))) (.cons (Frz.agg' (Yj (f4_ (f2_ (.cons (.nil _) (.cons (.nil _) p1)))))) .nil)) fun v14 h => ?_;cases h; exact (.p _)
 apply iU h <;> intro h
 ·apply iU h <;> intro h
  ·refine cP h Qv (.cons (Frz.agg' (Yj (f2_ (f1_ (.cons (.p _) p5))))) (.cons (Frz.agg' (Yj (f2_ (f1_ (.cons (.nil _) (f2_ (.cons (.nil _) (.cons (.nil _) p1)))))))) .nil)) fun v18 h => ?_;cases h; exact (.p _)
  refine cP h Qv (.cons (Frz.agg' (Yj (f2_ (f1_ (.cons (.p _) p5))))) (.cons (Frz.agg' (Yj (f2_ (f1_ (.cons (.nil _) (f2_ (.cons (.nil _) (.cons (.nil _) p1)))))))) .nil)) fun v20 h => ?_;cases h; exact (.p _)
 apply iU h <;> intro h
 ·refine cP h Qv (.cons (Frz.agg' (Yj (f2_ (f1_ (.cons (.p _) p5))))) (.cons (Frz.agg' (Yj (f2_ (f1_ (.cons (.nil _) (f2_ (.cons (.nil _) (.cons (.nil _) p1)))))))) .nil)) fun v23 h => ?_;cases h; exact (.p _)
 refine cP h Qv (.cons (Frz.agg' (Yj (f2_ (f1_ (.cons (.p _) p5))))) (.cons (Frz.agg' (Yj (f2_ (f1_ (.cons (.nil _) (f2_ (.cons (.nil _) (.cons (.nil _) p1)))))))) .nil)) fun v25 h => ?_;cases h; exact (.p _)
def Q0d (_N : Nat) (code : Int) : Option Bool :=
 cond (Q3 .leq 0 code)
 (some (Q3 .leq code 5))
 (some false)
theorem Qbk {N} {code} {r} (h : Q0d N code = some r) : pU 288 [.int .i64 code] (.bool r) := by
 refine Q2 Zcu ?_;unfold Q0d at h;rw [cX] at h;exact iB h
def Gk (N : Nat) (version : Int) (p : Q9) : Option Bool :=
 cond (Q3 .eql version 4)
 (cond (Q3 .gtr (wrap .i64 (((Q8 Qc.cells p.Props).length : Int) + ((Q8 Qc.cells p.Will.Props).length : Int))) 0)
 (some false)
 (cond (Q3 .eql p.Kind 2)
 ((G7 N p.Kind p.Code).bind fun v4 =>
 (Q0d N p.Code).bind fun v6 =>
 cond v6
 (cond (Q3 .eql p.Code 0)
 (some true)
 (some (!p.Session)))
 (some false))
 (cond (Q4s .eql p.Client [])
 (cond (!p.Clean)
 (some false)
 (cond p.HasPass
 (cond (!p.HasUser)
 (some false)
 (cond (Q3 .geq p.KeepAlive 0)
 (cond (Q3 .lss p.KeepAlive 65536)
 (cond (Q3 .geq p.Will.QoS 0)
 (some (Q3 .leq p.Will.QoS 2))
 (some false))
 (some false))
 (some false)))
 (cond (Q3 .geq p.KeepAlive 0)
 (cond (Q3 .lss p.KeepAlive 65536)
 (cond (Q3 .geq p.Will.QoS 0)
 (some (Q3 .leq p.Will.QoS 2))
 (some false))
 (some false))
 (some false))))
 (cond p.HasPass
 (cond (!p.HasUser)
 (some false)
 (cond (Q3 .geq p.KeepAlive 0)
 (cond (Q3 .lss p.KeepAlive 65536)
 (cond (Q3 .geq p.Will.QoS 0)
 (some (Q3 .leq p.Will.QoS 2))
 (some false))
 (some false))
 (some false)))
 (cond (Q3 .geq p.KeepAlive 0)
 (cond (Q3 .lss p.KeepAlive 65536)
 (cond (Q3 .geq p.Will.QoS 0)
 (some (Q3 .leq p.Will.QoS 2))
 (some false))
 (some false))
 (some false))))))
 (cond (Q3 .eql p.Kind 2)
 ((G7 N p.Kind p.Code).bind fun v29 =>
 cond v29
 (cond (Q3 .eql p.Code 0)
 (some true)
 (some (!p.Session)))
 (some false))
 (cond (Q3 .geq p.KeepAlive 0)
 (cond (Q3 .lss p.KeepAlive 65536)
 (cond (Q3 .geq p.Will.QoS 0)
 (some (Q3 .leq p.Will.QoS 2))
 (some false))
 (some false))
 (some false)))
theorem Qai {N} {version} {p} {r} (h : Gk N version p = some r) : pU 236 [.int .i64 version, .agg (Q9.cells p)] (.bool r) := by
 refine Q2 Zge ?_;unfold Gk at h;rw [cX, cY] at h;refine ifO h (fun hc1 h => ?_) (fun hc1 h => ?_)
 ·refine iL h fun h => ?_;apply iU h <;> intro h
  ·refine cP h Q0o p2 fun v4 h => ?_;refine ifT hc1 ?_;refine cP h Qbk p1 fun v6 h => ?_;refine iR h fun h => ?_;exact iB h
  refine ifT hc1 ?_;apply iU h <;> intro h
  ·refine iL h fun h => ?_;apply iU h <;> intro h
   ·refine iL h fun h => ?_;refine iR h fun h => ?_;refine iR h fun h => ?_;exact iB h
   refine iR h fun h => ?_;refine iR h fun h => ?_;exact iB h
  apply iU h <;> intro h
  ·refine iL h fun h => ?_;refine iR h fun h => ?_;refine iR h fun h => ?_;exact iB h
  refine iR h fun h => ?_;refine iR h fun h => ?_;exact iB h
 apply iU h <;> intro h
 ·refine cP h Q0o p2 fun v29 h => ?_;refine ifF hc1 ?_;refine iR h fun h => ?_;exact iB h
 refine ifF hc1 ?_;refine iR h fun h => ?_;refine iR h fun h => ?_;exact iB h
def Q0p (_N : Nat) (version : Int) : Option Bool :=
 cond (Q3 .eql version 4)
 (some true)
 (some (Q3 .eql version 5))
theorem Qc2 {N} {version} {r} (h : Q0p N version = some r) : pU 191 [.int .i64 version] (.bool r) := by
 refine Q2 Z6z ?_;unfold Q0p at h;rw [cX] at h;exact iB h
def Q0j (N : Nat) (version : Int) (p : Q9) : Option Int :=
 (Q0p N version).bind fun v1 =>
 cond (!v1)
 (some 2)
 ((Q1n N p.Kind).bind fun v4 =>
 cond (!v4)
 (some 2)
 ((Q07 N p).bind fun v7 =>
 cond (!v7)
 (some 2)
 ((Gk N version p).bind fun v10 =>
 cond (!v10)
 (some 2)
 ((Z5 N p.Client).bind fun v13 =>
 cond (!v13)
 (some 6)
 ((Z5 N p.User).bind fun v16 =>
 cond (!v16)
 (some 6)
 (cond p.HasWill
 ((Zf N p.Will.Topic).bind fun v20 =>
 cond (!v20)
 (some 10)
 (cond (Q3 .gtr (p.Will.Payload.length : Int) 65535)
 (some 2)
 (cond (Q3 .gtr (p.Pass.length : Int) 65535)
 (some 2)
 ((Zy N p.Kind p.Props).bind fun v25 =>
 cond (Q3 .neq v25 0)
 (some v25)
 ((Zy N 16 p.Will.Props).bind fun v28 =>
 some v28)))))
 (cond (Q3 .gtr (p.Will.Payload.length : Int) 65535)
 (some 2)
 (cond (Q3 .gtr (p.Pass.length : Int) 65535)
 (some 2)
 ((Zy N p.Kind p.Props).bind fun v32 =>
 cond (Q3 .neq v32 0)
 (some v32)
 ((Zy N 16 p.Will.Props).bind fun v35 =>
 some v35))))))))))
theorem Qbh {N} {version} {p} {r} (h : Q0j N version p = some r) : pU 186 [.int .i64 version, .agg (Q9.cells p)] (.int .i64 r) := by
 refine Q2 Zah ?_;unfold Q0j at h;rw [cX] at h;refine cP h Qc2 p1 fun v1 h => ?_;refine iL h fun h => ?_;refine cP h Qd8 p1 fun v4 h => ?_;refine iL h fun h => ?_;refine cP h Qcb (.cons (Frz.agg' (Yj (f2_ (f1_ (.cons (.p _) p5))))) .nil) fun v7 h => ?_;refine iL h fun h => ?_;refine cP h Qai (.cons (.p _) (.cons (Frz.agg' (Yj (f2_ (f1_ (.cons (.p _) p5))))) .nil)) fun v10 h => ?_;refine iL h fun h => ?_;refine cP h Zq p1 fun v13 h => ?_;refine iL h fun h => ?_;refine cP h Zq p1 fun v16 h => ?_;refine iL h fun h => ?_;apply iU h <;> intro h
 ·refine cP h Ym p1 fun v20 h => ?_;refine iL h fun h => ?_;refine iL h fun h => ?_;refine iL h fun h => ?_;refine cP h Yk p2 fun v25 h => ?_;refine iL h fun h => ?_;refine cP h Yk p2 fun v28 h => ?_;cases h; exact (.p _)
 refine iL h fun h => ?_;refine iL h fun h => ?_;refine cP h Yk p2 fun v32 h => ?_;refine iL h fun h => ?_;refine cP h Yk p2 fun v35 h => ?_;cases h; exact (.p _)
def Gr (N : Nat) (version : Int) (kind : Int) (l : List Qc) : Option (List UInt8) :=
 cond (Q3 .eql version 4)
 (some [])
 ((Wm N kind l).bind fun v2 =>
 some v2.1)
theorem Q72 {N} {version} {kind} {l} {r} (h : Gr N version kind l = some r) : pU 187 [.int .i64 version, .int .i64 kind, .slice 4 (Q8 Qc.cells l)] (.str r) := by
 refine Q2 Z9s ?_;unfold Gr at h;rw [cX] at h;refine iL h fun h => ?_;refine cP h Ve p2 fun v2 h => ?_;cases h; exact (.p _)
end
end
end Go.Av
