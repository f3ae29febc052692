/- Part of the proof of CrossNames: for every input the law returns true; no condition. -/
import Derived.Test.YtnbfaogioomghaaGreatDoorLiftTy
import Derived.Test.YtnbfaogioomghaaGreatDoorChks
import Derived.Test.YtnbfaogioomghaaGreatDoorSeat1
import Derived.Test.YtnbfaogioomghaaGreatDoorLiftG
import Derived.Test.YtnbfaogioomghaaGreatDoorKn1
import Derived.Test.YtnbfaogioomghaaGreatDoorRound
import Derived.Test.YtnbfaogioomghaaGreatDoorMans
import Derived.Test.YtnbfaogioomghaaGreatDoorClone
import Derived.KernelRfl
import Derived.Test.YtnbfaogioomghaaGreatDoorClosed5
open Go.IntKind (wrap)
namespace Go.Av
noncomputable section
open Go.Proofs
set_option maxRecDepth 100000
set_option maxHeartbeats 4000000
attribute [local irreducible] Z6 Ze Q2v Q3c Qfz Qfn Qe5
section
abbrev pU := Pure Tryz.prog G1
abbrev gU := GC Tryz.prog G1
def Y8 (_N : Nat) (r_0 : Int) : Option Bool :=
 cond (Qi .leq 0 r_0)
 (cond (Qi .lss r_0 55296)
 (some true)
 (cond (Qi .lss 57343 r_0)
 (cond (Qi .leq r_0 1114111)
 (some true)
 (some false))
 (some false)))
 (cond (Qi .lss 57343 r_0)
 (cond (Qi .leq r_0 1114111)
 (some true)
 (some false))
 (some false))
theorem V5 {N} {r_0} {r} (h : Y8 N r_0 = some r) : pU 156 [.int .i32 r_0] (.bool r) := by
 refine Q8 Qpy ?_;unfold Y8 at h;rw [cX] at h;apply iU h <;> intro h
 ·refine iL h fun h => ?_;refine iR h fun h => ?_;exact iB h
 refine iR h fun h => ?_;exact iB h
def Yi (N : Nat) (n_0 : Int) (size : Int) : Nat → Int → (List Int) → Option (List UInt8)
 | 0, _, _ => none
 | n + 1, s14, l15 =>
  cond (Qi .lss s14 (ifB (decide (16 < size)) 16 size))
  (cond (Qi .lss s14 8)
  (cond (decide (0 ≤ (wrap .u64 (wrap .i64 (8 * s14))))) ((idx (l15 : List Int) (wrap .i64 ((wrap .i64 ((ifB (decide (16 < size)) 16 size) - 1)) - s14))).bind fun y19 =>
  Yi N n_0 size n (wrap .i64 (s14 + 1)) ((l15 : List Int).set (Int.toNat (wrap .i64 ((wrap .i64 ((ifB (decide (16 < size)) 16 size) - 1)) - s14))) (wrap .u8 (Qb1 .u64 n_0 (wrap .u64 (wrap .i64 (8 * s14))))))) none)
  (Yi N n_0 size n (wrap .i64 (s14 + 1)) l15))
  (some (l15.map fun n => UInt8.ofNat n.toNat))
def G0 (N : Nat) (n_0 : Int) (size : Int) : Option (List UInt8) :=
 cond (Qi .leq size 0)
 (some [])
 (cond (decide (0 ≤ (ifB (decide (16 < size)) 16 size)) && decide ((ifB (decide (16 < size)) 16 size) ≤ (ifB (decide (16 < size)) 16 size)) && decide ((ifB (decide (16 < size)) 16 size) * 1 ≤ 1099511627776)) (Yi N n_0 size N 0 (List.replicate ((ifB (decide (16 < size)) 16 size) : Int).toNat (0 : Int))) none)
theorem Q3l {N} {n_0} {size} {r} (h : G0 N n_0 size = some r) : pU 57 [.int .u64 n_0, .int .i64 size] (.str r) := by
 refine Q8 k57 ?_;unfold G0 at h;rw [cX] at h;refine iL h fun h => ?_;refine kU h fun h => ?_;refine Qj3 (c := (cI .u8)) (0 : Int) rfl ?_;refine lpC (τ := Int × (List Int)) (fun ⟨s14, l15⟩ => (iW n_0 :: .p (.int .i64 (ifB (decide (16 < size)) 16 size)) :: a2 (.any :: .slice 1 1 0 l15.length :: a4 (a2 (.any :: .p (.int .i64 (ifB (decide (16 < size)) 16 size)) :: iI s14 :: a16 (a2 (.any :: []))))) : List AV)) (fun ⟨_, l15⟩ => (.dead :: .cells (Wg (cI .u8) l15) :: [] : List AObj)) (fun n0 ⟨s14, l15⟩ => Yi N n_0 size n0 s14 l15) (0, (List.replicate ((ifB (decide (16 < size)) 16 size) : Int).toNat (0 : Int))) h (rho [0, 0]) Ud fun n0 ⟨s14, l15⟩ h => ?_
 first | rw [Yi] at h | simp only [Yi] at h
 rw [cX] at h;apply iU h <;> intro h
 ·apply iU h <;> intro h
  ·refine kU h fun h => ?_;obtain ⟨y19, hy20, h⟩ := Gb h;refine Qfj (Q87 hy20 sd) ?_;refine Qfj (Qbr (c := (cI .u8)) (e := 1) (fun _ => rfl) hy20 (off := 0) (by omega) rfl (by decide)) ?_
   refine Qck (c := (cI .u8)) (e := 1) (fun _ => rfl) hy20 (wrap .u8 (Qb1 .u64 n_0 (wrap .u64 (wrap .i64 (8 * s14))))) (off := 0) (by first | omega | (simp only [Qab, orI, Qjf, Q7g, Q5q, Qb1]; omega)) rfl (by simp) ?_
   show Exists _;exact ⟨(n0, (wrap .i64 (s14 + 1)), ((l15 : List Int).set (Int.toNat (wrap .i64 ((wrap .i64 ((ifB (decide (16 < size)) 16 size) - 1)) - s14))) (wrap .u8 (Qb1 .u64 n_0 (wrap .u64 (wrap .i64 (8 * s14))))))), h, Lq _, (fun i => i), Ud⟩
  show Exists _;exact ⟨(n0, (wrap .i64 (s14 + 1)), l15), h, Lq _, (fun i => i), Ud⟩
 refine Qhz (l := l15) (n := l15.length) sd ?_;cases h; exact (.p _)
def W2 (_N : Nat) (kind : Int) (items : List Q2) : Option Q2 :=
 some (⟨kind, 0, [], items⟩ : Q2)
theorem W4 {N} {kind} {items} {r} (h : W2 N kind items = some r) : pU 54 [.int .i64 kind, .slice 4 (Q2.rows items)] (.agg (Q2.cells r)) := by
 refine Q8 k54 ?_;unfold W2 at h;obtain rfl := Yg h; exact q4
def Zj (_N : Nat) (kind : Int) (n_1 : Int) : Option Q2 :=
 some (⟨kind, n_1, [], []⟩ : Q2)
theorem Qz {N} {kind} {n_1} {r} (h : Zj N kind n_1 = some r) : pU 55 [.int .i64 kind, .int .u64 n_1] (.agg (Q2.cells r)) := by
 refine Q8 k55 ?_;unfold Zj at h;obtain rfl := Yg h; exact q4n
def Y9 (N : Nat) (n_0 : Int) (v : Q2) : Option Q2 :=
 (Zj N 6 n_0).bind fun v1 =>
 (W2 N 25 [v1, v]).bind fun v3 =>
 some v3
theorem Yn {N} {n_0} {v} {r} (h : Y9 N n_0 v = some r) : pU 53 [.int .u64 n_0, .agg (Q2.cells v)] (.agg (Q2.cells r)) := by
 refine Q8 k53 ?_;unfold Y9 at h;refine Z1 ?_;refine cD h Qz p2 fun v1 h => ?_;obtain ⟨v3, hv4, h⟩ := Gb h;refine U8 (W4 hv4) [2] (.cons (.p _) (.cons (Q2.frz_own (l := [v1, v]) rfl (by simp) sd) .nil)) rfl ?_;obtain rfl := Yg h; exact q4
def Yc (_N : Nat) (kind : Int) (s_1 : List UInt8) : Option Q2 :=
 some (⟨kind, 0, s_1, []⟩ : Q2)
theorem Y7 {N} {kind} {s_1} {r} (h : Yc N kind s_1 = some r) : pU 56 [.int .i64 kind, .str s_1] (.agg (Q2.cells r)) := by
 refine Q8 k56 ?_;unfold Yc at h;obtain rfl := Yg h; exact q4n
def Wb (N : Nat) (is : Bool) : Option Q2 :=
 cond is
 ((Zj N 2 1).bind fun v2 =>
 some v2)
 ((Zj N 2 0).bind fun v4 =>
 some v4)
theorem V4 {N} {is} {r} (h : Wb N is = some r) : pU 58 [.bool is] (.agg (Q2.cells r)) := by
 refine Q8 k58 ?_;unfold Wb at h;apply iU h <;> intro h
 ·refine cP h Qz p2 fun v2 h => ?_;obtain rfl := Yg h; exact q4
 refine cP h Qz p2 fun v4 h => ?_;obtain rfl := Yg h; exact q4
def Ut (N : Nat) (e : Z3) : Option (Yd) :=
 (Zj N 5 0).bind fun v1 =>
 (Zj N 5 (wrap .u64 e.ID)).bind fun v3 =>
 (G0 N (wrap .u64 e.ID) 2).bind fun v5 =>
 (Yc N 19 v5).bind fun v7 =>
 (Zj N 5 0).bind fun v9 =>
 (Wb N (Qi .eql e.QoS 0)).bind fun v11 =>
 (W2 N 22 [v1, v3, v7, v9, v11]).bind fun v13 =>
 (Y9 N 20 v13).bind fun v15 =>
 (Yc N 21 [120, 45, 113, 111, 115]).bind fun v17 =>
 (Zj N 3 (wrap .u64 e.QoS)).bind fun v19 =>
 (Yc N 21 [120, 45, 114, 101, 116, 97, 105, 110]).bind fun v21 =>
 (Wb N e.Retain).bind fun v23 =>
 (Yc N 21 [120, 45, 100, 117, 112]).bind fun v25 =>
 (Wb N e.Dup).bind fun v27 =>
 (W2 N 23 [v17, v19, v21, v23, v25, v27]).bind fun v29 =>
 (Y9 N 114 v29).bind fun v31 =>
 (Zj N 1 0).bind fun v33 =>
 (Zj N 1 0).bind fun v35 =>
 (Yc N 20 e.Topic).bind fun v37 =>
 (W2 N 22 [v33, v35, v37]).bind fun v39 =>
 (Y9 N 115 v39).bind fun v41 =>
 (Yc N 19 e.Payload).bind fun v43 =>
 (Y9 N 117 v43).bind fun v45 =>
 some (⟨0, e.Channel, [], [v15, v31, v41, v45]⟩ : Yd)
theorem Q08 {N} {e} {r} (h : Ut N e = some r) : pU 19 [.agg (Z3.cells e)] (.agg (Yd.cells r)) := by
 refine Q8 k19 ?_;unfold Ut at h;rw [cX] at h;refine Z1 ?_;refine cD h Qz p2 fun v1 h => ?_;refine cD h Qz p2 fun v3 h => ?_;refine cD h Q3l p2 fun v5 h => ?_;refine cD h Y7 p2 fun v7 h => ?_;refine cD h Qz p2 fun v9 h => ?_;refine cD h V4 p1 fun v11 h => ?_;obtain ⟨v13, hv14, h⟩ := Gb h;refine U8 (W4 hv14) [2] (.cons (.p _) (.cons (Q2.frz_own (l := [v1, v3, v7, v9, v11]) rfl (by simp) sd) .nil)) rfl ?_;refine cD h Yn p2 fun v15 h => ?_;refine cD h Y7 p2 fun v17 h => ?_;refine cD h Qz p2 fun v19 h => ?_;refine cD h Y7 p2 fun v21 h => ?_;refine cD h V4 p1 fun v23 h => ?_;refine cD h Y7 p2 fun v25 h => ?_;refine cD h V4 p1 fun v27 h => ?_;obtain ⟨v29, hv30, h⟩ := Gb h;refine U8 (W4 hv30) [3] (.cons (.p _) (.cons (Q2.frz_own (l := [v17, v19, v21, v23, v25, v27]) rfl (by simp) sd) .nil)) rfl ?_;refine cD h Yn p2 fun v31 h => ?_;refine cD h Qz p2 fun v33 h => ?_;refine cD h Qz p2 fun v35 h => ?_;refine cD h Y7 p2 fun v37 h => ?_;obtain ⟨v39, hv40, h⟩ := Gb h;refine U8 (W4 hv40) [4] (.cons (.p _) (.cons (Q2.frz_own (l := [v33, v35, v37]) rfl (by simp) sd) .nil)) rfl ?_;refine cD h Yn p2 fun v41 h => ?_;refine cD h Y7 p2 fun v43 h => ?_;refine cD h Yn p2 fun v45 h => ?_;obtain rfl := Yg h; exact (Frz.agg' (f2_ (f1_ (.cons (Q2.frz_own (l := [v15, v31, v41, v45]) rfl trivial sd) .nil))))
def Wj (_N : Nat) (l : Yq) : Option Bool :=
 cond (Qi .geq l.MaxPacket 16)
 (cond (Qi .leq l.MaxPacket 1048576)
 (cond (Qi .geq l.MaxDepth 0)
 (some (Qi .leq l.MaxDepth 32))
 (some false))
 (some false))
 (some false)
theorem Jw {N} {l} {r} (h : Wj N l = some r) : pU 72 [.agg (Yq.cells l)] (.bool r) := by
 refine Q8 k72 ?_;unfold Wj at h;rw [cX] at h;refine iR h fun h => ?_;refine iR h fun h => ?_;exact iB h
def Wl (_N : Nat) (n_0 : Int) : Option Bool :=
 cond (Qi .eql n_0 0)
 (some true)
 (some (Qi .eql n_0 1))
theorem G8 {N} {n_0} {r} (h : Wl N n_0 = some r) : pU 73 [.int .i64 n_0] (.bool r) := by
 refine Q8 k73 ?_;unfold Wl at h;rw [cX] at h;exact iB h
def X0 (_N : Nat) (most : Int) : Option Bool :=
 cond (Qi .geq most 0)
 (some (Qi .leq most 32))
 (some false)
theorem Vw {N} {most} {r} (h : X0 N most = some r) : pU 96 [.int .i64 most] (.bool r) := by
 refine Q8 k96 ?_;unfold X0 at h;rw [cX] at h;exact iB h
def Qf (_N : Nat) (s_0 : List UInt8) : Option Int :=
 (idx s_0 0).bind fun b1 =>
 (idx s_0 1).bind fun b3 =>
 (idx s_0 2).bind fun b5 =>
 (idx s_0 3).bind fun b7 =>
 (idx s_0 4).bind fun b9 =>
 (idx s_0 5).bind fun b11 =>
 (idx s_0 6).bind fun b13 =>
 (idx s_0 7).bind fun b15 =>
 some (orI .u64 (orI .u64 (orI .u64 (orI .u64 (orI .u64 (orI .u64 (orI .u64 (wrap .u64 (b1.toNat : Int)) (Q5q .u64 (wrap .u64 (b3.toNat : Int)) 8)) (Q5q .u64 (wrap .u64 (b5.toNat : Int)) 16)) (Q5q .u64 (wrap .u64 (b7.toNat : Int)) 24)) (Q5q .u64 (wrap .u64 (b9.toNat : Int)) 32)) (Q5q .u64 (wrap .u64 (b11.toNat : Int)) 40)) (Q5q .u64 (wrap .u64 (b13.toNat : Int)) 48)) (Q5q .u64 (wrap .u64 (b15.toNat : Int)) 56))
theorem Qg {N} {s_0} {r} (h : Qf N s_0 = some r) : pU 174 [.str s_0] (.int .u64 r) := by
 refine Q8 Qo6 ?_;unfold Qf at h;refine Z1 ?_;refine xB h fun b1 h => ?_;refine xB h fun b3 h => ?_;refine xB h fun b5 h => ?_;refine xB h fun b7 h => ?_;refine xB h fun b9 h => ?_;refine xB h fun b11 h => ?_;refine xB h fun b13 h => ?_;refine xB h fun b15 h => ?_;cases h; exact (.p _)
def Ql (N : Nat) (k0 : (List UInt8) → Option Bool) : Nat → (List UInt8) → Option Bool
 | 0, _ => none
 | n + 1, s272 =>
  cond (Qi .gtr (s272.length : Int) 32)
  ((Qf N s272).bind fun v274 =>
  cond (Nat.ble 8 s272.length && Nat.ble s272.length s272.length) ((Qf N ((s272.take s272.length).drop 8)).bind fun v277 =>
  cond (Nat.ble 16 s272.length && Nat.ble s272.length s272.length) ((Qf N ((s272.take s272.length).drop 16)).bind fun v280 =>
  cond (Nat.ble 24 s272.length && Nat.ble s272.length s272.length) ((Qf N ((s272.take s272.length).drop 24)).bind fun v283 =>
  cond (Qi .eql (Qab .u64 (orI .u64 (orI .u64 v274 v277) (orI .u64 v280 v283)) 9259542123273814144) 0)
  (cond (Nat.ble 32 s272.length && Nat.ble s272.length s272.length) (Ql N k0 n ((s272.take s272.length).drop 32)) none)
  (k0 s272)) none) none) none)
  (k0 s272)
def Q6 (N : Nat) : Nat → (List UInt8) → Option Bool
 | 0, _ => none
 | n + 1, s224 =>
  cond (Qi .gtr (s224.length : Int) 0)
  ((idx s224 0).bind fun b226 =>
  cond (Qi .lss (b226.toNat : Int) 128)
  (cond (Nat.ble 1 s224.length && Nat.ble s224.length s224.length) (cond (Qi .gtr (((s224.take s224.length).drop 1).length : Int) 8)
  ((Qf N ((s224.take s224.length).drop 1)).bind fun v231 =>
  cond (Qi .eql (Qab .u64 v231 9259542123273814144) 0)
  (cond (Nat.ble 8 (((s224.take s224.length).drop 1).length) && Nat.ble (((s224.take s224.length).drop 1).length) ((s224.take s224.length).drop 1).length) (cond (Qi .gtr (((((s224.take s224.length).drop 1).take (((s224.take s224.length).drop 1).length)).drop 8).length : Int) 16)
  ((Qf N ((((s224.take s224.length).drop 1).take (((s224.take s224.length).drop 1).length)).drop 8)).bind fun v236 =>
  cond (Nat.ble 8 (((((s224.take s224.length).drop 1).take (((s224.take s224.length).drop 1).length)).drop 8).length) && Nat.ble (((((s224.take s224.length).drop 1).take (((s224.take s224.length).drop 1).length)).drop 8).length) ((((s224.take s224.length).drop 1).take (((s224.take s224.length).drop 1).length)).drop 8).length) ((Qf N ((((((s224.take s224.length).drop 1).take (((s224.take s224.length).drop 1).length)).drop 8).take (((((s224.take s224.length).drop 1).take (((s224.take s224.length).drop 1).length)).drop 8).length)).drop 8)).bind fun v239 =>
  cond (Qi .eql (Qab .u64 (orI .u64 v236 v239) 9259542123273814144) 0)
  (cond (Nat.ble 16 (((((s224.take s224.length).drop 1).take (((s224.take s224.length).drop 1).length)).drop 8).length) && Nat.ble (((((s224.take s224.length).drop 1).take (((s224.take s224.length).drop 1).length)).drop 8).length) ((((s224.take s224.length).drop 1).take (((s224.take s224.length).drop 1).length)).drop 8).length) (Ql N (Q6 N n) N ((((((s224.take s224.length).drop 1).take (((s224.take s224.length).drop 1).length)).drop 8).take (((((s224.take s224.length).drop 1).take (((s224.take s224.length).drop 1).length)).drop 8).length)).drop 16)) none)
  (Q6 N n ((((s224.take s224.length).drop 1).take (((s224.take s224.length).drop 1).length)).drop 8))) none)
  (Q6 N n ((((s224.take s224.length).drop 1).take (((s224.take s224.length).drop 1).length)).drop 8))) none)
  (Q6 N n ((s224.take s224.length).drop 1)))
  (Q6 N n ((s224.take s224.length).drop 1))) none)
  ((idx gtab0 (b226.toNat : Int)).bind fun y287 =>
  (idx gtab1 (Qb1 .u8 y287 4)).bind fun y289 =>
  cond (Qi .eql (wrap .i64 (Qab .u8 y287 7)) 2)
  (cond (Qi .lss (s224.length : Int) 2)
  (some false)
  ((idx s224 1).bind fun b293 =>
  cond (Qi .lss (b293.toNat : Int) y289.1)
  (some false)
  ((idx s224 1).bind fun b296 =>
  cond (Qi .lss y289.2 (b296.toNat : Int))
  (some false)
  (cond (Nat.ble 2 s224.length && Nat.ble s224.length s224.length) (Q6 N n ((s224.take s224.length).drop 2)) none))))
  (cond (Qi .eql (wrap .i64 (Qab .u8 y287 7)) 3)
  (cond (Qi .lss (s224.length : Int) 3)
  (some false)
  ((idx s224 1).bind fun b302 =>
  cond (Qi .lss (b302.toNat : Int) y289.1)
  (some false)
  ((idx s224 1).bind fun b305 =>
  cond (Qi .lss y289.2 (b305.toNat : Int))
  (some false)
  ((idx s224 2).bind fun b308 =>
  cond (Qi .lss (b308.toNat : Int) 128)
  (some false)
  ((idx s224 2).bind fun b311 =>
  cond (Qi .lss 191 (b311.toNat : Int))
  (some false)
  (cond (Nat.ble 3 s224.length && Nat.ble s224.length s224.length) (Q6 N n ((s224.take s224.length).drop 3)) none))))))
  (cond (Qi .eql (wrap .i64 (Qab .u8 y287 7)) 4)
  (cond (Qi .lss (s224.length : Int) 4)
  (some false)
  ((idx s224 1).bind fun b317 =>
  cond (Qi .lss (b317.toNat : Int) y289.1)
  (some false)
  ((idx s224 1).bind fun b320 =>
  cond (Qi .lss y289.2 (b320.toNat : Int))
  (some false)
  ((idx s224 2).bind fun b323 =>
  cond (Qi .lss (b323.toNat : Int) 128)
  (some false)
  ((idx s224 2).bind fun b326 =>
  cond (Qi .lss 191 (b326.toNat : Int))
  (some false)
  ((idx s224 3).bind fun b329 =>
  cond (Qi .lss (b329.toNat : Int) 128)
  (some false)
  ((idx s224 3).bind fun b332 =>
  cond (Qi .lss 191 (b332.toNat : Int))
  (some false)
  (cond (Nat.ble 4 s224.length && Nat.ble s224.length s224.length) (Q6 N n ((s224.take s224.length).drop 4)) none))))))))
  (some false)))))
  (some true)
def Zr (N : Nat) (s_0 : List UInt8) : Option Bool :=
 Q6 N N s_0
theorem Wi {N} {s_0} {r} (h : Zr N s_0 = some r) : pU 159 [.str s_0] (.bool r) := by
 refine Q8 Qru ?_;unfold Zr at h;refine lpH (τ := (List UInt8)) (fun s224 => (iS s224 :: a16 (a16 (a16 (a16 (a16 (a16 (a16 (a16 (a16 (a16 (a8 ([]))))))))))) : List AV)) (fun n0 s224 => Q6 N n0 s224) (s_0) h fun n0 s224 h => ?_
 first | rw [Q6] at h | simp only [Q6] at h
 rw [cX] at h;refine iR h fun h => ?_;refine xB h fun b226 h => ?_;apply iU h <;> intro h
 ·refine kU h fun h => ?_;apply iU h <;> intro h
  ·refine cP h Qg p1 fun v231 h => ?_;apply iU h <;> intro h
   ·refine kU h fun h => ?_;refine Z1 ?_;apply iU h <;> intro h
    ·refine cD h Qg p1 fun v236 h => ?_;refine kU h fun h => ?_;refine cD h Qg p1 fun v239 h => ?_;apply iU h <;> intro h
     ·refine kU h fun h => ?_;refine lpH (τ := (List UInt8)) (fun s272 => (iS s272 :: a16 (a16 (a16 (a16 (a16 (a16 (a16 (a16 (a16 (a16 (a8 ([]))))))))))) : List AV)) (fun n1 s272 => Ql N (Q6 N n0) n1 s272) (((((((s224.take s224.length).drop 1).take (((s224.take s224.length).drop 1).length)).drop 8).take (((((s224.take s224.length).drop 1).take (((s224.take s224.length).drop 1).length)).drop 8).length)).drop 16)) h fun n1 s272 h => ?_
      first | rw [Ql] at h | simp only [Ql] at h
      rw [cX] at h;refine Z1 ?_;apply iU h <;> intro h
      ·refine cD h Qg p1 fun v274 h => ?_;refine kU h fun h => ?_;refine cD h Qg p1 fun v277 h => ?_;refine kU h fun h => ?_;refine cD h Qg p1 fun v280 h => ?_;refine kU h fun h => ?_;refine cD h Qg p1 fun v283 h => ?_;apply iU h <;> intro h
       ·refine kU h fun h => ?_;show Exists _;exact ⟨(n1, ((s272.take s272.length).drop 32)), h, Lq _, (fun i => i), Ud⟩
       show Exists _;exact ⟨(n0, s272), h, Lq _, (fun i => i), Ud⟩
      show Exists _;exact ⟨(n0, s272), h, Lq _, (fun i => i), Ud⟩
     show Exists _;exact ⟨(n0, ((((s224.take s224.length).drop 1).take (((s224.take s224.length).drop 1).length)).drop 8)), h, Lq _, (fun i => i), Ud⟩
    show Exists _;exact ⟨(n0, ((((s224.take s224.length).drop 1).take (((s224.take s224.length).drop 1).length)).drop 8)), h, Lq _, (fun i => i), Ud⟩
   show Exists _;exact ⟨(n0, ((s224.take s224.length).drop 1)), h, Lq _, (fun i => i), Ud⟩
  show Exists _;exact ⟨(n0, ((s224.take s224.length).drop 1)), h, Lq _, (fun i => i), Ud⟩
 obtain ⟨y287, hy288, h⟩ := Gb h;refine Qfj (Q87 hy288 Qcg) ?_
 refine Qcy (c := (cI .u8)) (e := 1) (fun _ => rfl) Qdr hy288 (off := 0) (by decide) (by first | omega | (simp only [Qab, orI, Qjf, Q7g, Q5q, Qb1]; omega)) ?_
 obtain ⟨y289, hy290, h⟩ := Gb h;refine Qfj (Q87 hy290 Qca) ?_
 refine Qcy (c := cUU) (e := 2) (fun _ => rfl) Qd6 hy290 (off := 0) (by decide) (by first | omega | (simp only [Qab, orI, Qjf, Q7g, Q5q, Qb1]; omega)) ?_
 apply iU h <;> intro h
 ·refine Z1 ?_;refine iL h fun h => ?_;refine xB h fun b293 h => ?_;refine iL h fun h => ?_;refine xB h fun b296 h => ?_;refine iL h fun h => ?_;refine kU h fun h => ?_;show Exists _;exact ⟨(n0, ((s224.take s224.length).drop 2)), h, Lq _, (fun i => i), Ud⟩
 apply iU h <;> intro h
 ·refine Z1 ?_;refine iL h fun h => ?_;refine xB h fun b302 h => ?_;refine iL h fun h => ?_;refine xB h fun b305 h => ?_;refine iL h fun h => ?_;refine xB h fun b308 h => ?_;refine iL h fun h => ?_;refine xB h fun b311 h => ?_;refine iL h fun h => ?_;refine kU h fun h => ?_;show Exists _;exact ⟨(n0, ((s224.take s224.length).drop 3)), h, Lq _, (fun i => i), Ud⟩
 refine iR h fun h => ?_;refine Z1 ?_;refine iL h fun h => ?_;refine xB h fun b317 h => ?_;refine iL h fun h => ?_;refine xB h fun b320 h => ?_;refine iL h fun h => ?_;refine xB h fun b323 h => ?_;refine iL h fun h => ?_;refine xB h fun b326 h => ?_;refine iL h fun h => ?_;refine xB h fun b329 h => ?_;refine iL h fun h => ?_;refine xB h fun b332 h => ?_;refine iL h fun h => ?_;refine kU h fun h => ?_;show Exists _;exact ⟨(n0, ((s224.take s224.length).drop 4)), h, Lq _, (fun i => i), Ud⟩
def Yb (N : Nat) (v : Q2) : Nat → Int → Option Int
 | 0, _ => none
 | n + 1, s15 =>
  cond (Qi .lss s15 (v.Text.length : Int))
  ((idx v.Text s15).bind fun b17 =>
  cond (Qi .geq (b17.toNat : Int) 128)
  (some 6)
  (Yb N v n (wrap .i64 (s15 + 1))))
  (some 0)
def Zf (N : Nat) (v : Q2) : Option Int :=
 cond (Qi .eql v.Kind 20)
 ((Zr N v.Text).bind fun v2 =>
 cond (!v2)
 (some 6)
 (some 0))
 (cond (Qi .eql v.Kind 21)
 (Yb N v N 0)
 (some 0))
theorem Zh {N} {v} {r} (h : Zf N v = some r) : pU 128 [.agg (Q2.cells v)] (.int .i64 r) := by
 refine Q8 Qlz ?_;unfold Zf at h;rw [cX] at h;apply iU h <;> intro h
 ·refine cP h Wi p1 fun v2 h => ?_;exact iB h
 refine iR h fun h => ?_;refine lpH (τ := Int) (fun s15 => (.any :: .ptr 0 0 :: a8 (a4 (a2 (iI (v.Text.length : Int) :: iI s15 :: a8 ([])))) : List AV)) (fun n0 s15 => Yb N v n0 s15) (0) h fun n0 s15 h => ?_
 first | rw [Yb] at h | simp only [Yb] at h
 rw [cX] at h;refine iR h fun h => ?_;refine xB h fun b17 h => ?_;refine iL h fun h => ?_;show Exists _;exact ⟨(n0, (wrap .i64 (s15 + 1))), h, Lq _, (fun i => i), Ud⟩
def W3 (_N : Nat) (kind : Int) : Option (Int × Bool) :=
 cond (Qi .eql kind 2)
 (some (1, false))
 (cond (Qi .eql kind 3)
 (some (8, false))
 (cond (Qi .eql kind 4)
 (some (16, false))
 (cond (Qi .eql kind 5)
 (some (32, false))
 (cond (Qi .eql kind 11)
 (some (32, false))
 (cond (Qi .eql kind 13)
 (some (32, false))
 (cond (Qi .eql kind 16)
 (some (32, false))
 (cond (Qi .eql kind 6)
 (some (64, false))
 (cond (Qi .eql kind 12)
 (some (64, false))
 (cond (Qi .eql kind 14)
 (some (64, false))
 (cond (Qi .eql kind 7)
 (some (8, true))
 (cond (Qi .eql kind 8)
 (some (16, true))
 (cond (Qi .eql kind 9)
 (some (32, true))
 (cond (Qi .eql kind 10)
 (some (64, true))
 (cond (Qi .eql kind 17)
 (some (64, true))
 (some (0, false))))))))))))))))
theorem Vt {N} {kind} {r} (h : W3 N kind = some r) : pU 124 [.int .i64 kind] (.tuple [.int .i64 r.1, .bool r.2]) := by
 refine Q8 Qkk ?_;unfold W3 at h;rw [cX] at h;refine iL2 h fun h => ?_;refine iL2 h fun h => ?_;refine iL2 h fun h => ?_;refine ifO h (fun hc4 h => ?_) (fun hc4 h => ?_)
 ·refine ifT hc4 ?_;obtain rfl := Yg h; exact u2
 refine ifO h (fun hc5 h => ?_) (fun hc5 h => ?_)
 ·refine ifT hc5 ?_;obtain rfl := Yg h; exact u2
 refine ifO h (fun hc6 h => ?_) (fun hc6 h => ?_)
 ·refine ifT hc6 ?_;obtain rfl := Yg h; exact u2
 refine iL2 h fun h => ?_;refine ifO h (fun hc8 h => ?_) (fun hc8 h => ?_)
 ·refine ifT hc8 ?_;obtain rfl := Yg h; exact u2
 refine ifO h (fun hc9 h => ?_) (fun hc9 h => ?_)
 ·refine ifT hc9 ?_;obtain rfl := Yg h; exact u2
 refine iL2 h fun h => ?_;refine iL2 h fun h => ?_;refine iL2 h fun h => ?_;refine iL2 h fun h => ?_;refine ifO h (fun hc14 h => ?_) (fun hc14 h => ?_)
 ·refine ifT hc14 ?_;obtain rfl := Yg h; exact u2
 exact iB2 h
def Yo (_N : Nat) (n_0 : Int) (bits : Int) (signed : Bool) : Option Bool :=
 cond signed
 (cond (decide (0 ≤ (wrap .i64 (bits - 1)))) (cond (Qi .geq (wrap .i64 n_0) (Q5q .i64 (-1) (wrap .i64 (bits - 1))))
 (some (Qi .leq (wrap .i64 n_0) (wrap .i64 (0 - (wrap .i64 ((Q5q .i64 (-1) (wrap .i64 (bits - 1))) + 1))))))
 (some false)) none)
 (cond (Qi .eql bits 64)
 (some true)
 (cond (decide (0 ≤ bits)) (some (Qi .eql (Qb1 .u64 n_0 bits) 0)) none))
theorem We {N} {n_0} {bits} {signed} {r} (h : Yo N n_0 bits signed = some r) : pU 125 [.int .u64 n_0, .int .i64 bits, .bool signed] (.bool r) := by
 refine Q8 Qkb ?_;unfold Yo at h;rw [cX] at h;apply iU h <;> intro h
 ·refine kU h fun h => ?_;exact iB h
 refine iL h fun h => ?_;refine kU h fun h => ?_;cases h; exact (.p _)
def Xa (N : Nat) (n_0 : Int) : Option Bool :=
 cond (Qi .leq n_0 1114111)
 ((Y8 N (wrap .i32 n_0)).bind fun v2 =>
 some v2)
 (some false)
theorem Uj {N} {n_0} {r} (h : Xa N n_0 = some r) : pU 126 [.int .u64 n_0] (.bool r) := by
 refine Q8 Qn3 ?_;unfold Xa at h;rw [cX] at h;refine iR h fun h => ?_;refine cP h V5 p1 fun v2 h => ?_;cases h; exact (.p _)
def Yu (_N : Nat) (kind : Int) : Option Bool :=
 cond (Qi .eql kind 15)
 (some true)
 (cond (Qi .eql kind 18)
 (some true)
 (cond (Qi .eql kind 19)
 (some true)
 (cond (Qi .eql kind 20)
 (some true)
 (cond (Qi .eql kind 21)
 (some true)
 (some false)))))
theorem Wn {N} {kind} {r} (h : Yu N kind = some r) : pU 127 [.int .i64 kind] (.bool r) := by
 refine Q8 Qo7 ?_;unfold Yu at h;rw [cX] at h;refine ifO h (fun hc1 h => ?_) (fun hc1 h => ?_)
 ·refine ifT hc1 ?_;cases h; exact (.p _)
 refine ifO h (fun hc2 h => ?_) (fun hc2 h => ?_)
 ·refine ifT hc2 ?_;cases h; exact (.p _)
 refine ifO h (fun hc3 h => ?_) (fun hc3 h => ?_)
 ·refine ifT hc3 ?_;cases h; exact (.p _)
 refine ifO h (fun hc4 h => ?_) (fun hc4 h => ?_)
 ·refine ifT hc4 ?_;cases h; exact (.p _)
 exact iB h
def Xg (N : Nat) (v : Q2) : Option Int :=
 cond (Qi .lss v.Kind 1)
 (some 8)
 (cond (Qi .gtr v.Kind 21)
 (some 8)
 ((W3 N v.Kind).bind fun v3 =>
 (Yo N v.N' v3.1 v3.2).bind fun v5 =>
 cond (!v5)
 (some 2)
 (cond (Qi .eql v.Kind 16)
 ((Xa N v.N').bind fun v9 =>
 cond (!v9)
 (some 2)
 (cond (Qi .neq ((Q2.rows v.Items).length : Int) 0)
 (some 2)
 ((Yu N v.Kind).bind fun v13 =>
 cond (!v13)
 (cond (Q7f .neq v.Text [])
 (some 2)
 (some 0))
 (cond (Qi .eql v.Kind 15)
 (cond (Qi .neq (v.Text.length : Int) 16)
 (some 2)
 (cond (Qi .gtr (v.Text.length : Int) 1048576)
 (some 4)
 ((Zf N v).bind fun v20 =>
 some v20)))
 (cond (Qi .eql v.Kind 18)
 (cond (Qi .neq (v.Text.length : Int) 16)
 (some 2)
 (cond (Qi .gtr (v.Text.length : Int) 1048576)
 (some 4)
 ((Zf N v).bind fun v25 =>
 some v25)))
 (cond (Qi .gtr (v.Text.length : Int) 1048576)
 (some 4)
 ((Zf N v).bind fun v28 =>
 some v28)))))))
 (cond (Qi .neq ((Q2.rows v.Items).length : Int) 0)
 (some 2)
 ((Yu N v.Kind).bind fun v31 =>
 cond (!v31)
 (cond (Q7f .neq v.Text [])
 (some 2)
 (some 0))
 (cond (Qi .eql v.Kind 15)
 (cond (Qi .neq (v.Text.length : Int) 16)
 (some 2)
 (cond (Qi .gtr (v.Text.length : Int) 1048576)
 (some 4)
 ((Zf N v).bind fun v38 =>
 some v38)))
 (cond (Qi .eql v.Kind 18)
 (cond (Qi .neq (v.Text.length : Int) 16)
 (some 2)
 (cond (Qi .gtr (v.Text.length : Int) 1048576)
 (some 4)
 ((Zf N v).bind fun v43 =>
 some v43)))
 (cond (Qi .gtr (v.Text.length : Int) 1048576)
 (some 4)
 ((Zf N v).bind fun v46 =>
 some v46)))))))))
theorem Vb {N} {v} {r} (h : Xg N v = some r) : pU 98 [.agg (Q2.cells v)] (.int .i64 r) := by
 refine Q8 k98 ?_;unfold Xg at h;rw [cX, cY] at h;refine iL h fun h => ?_;refine iL h fun h => ?_;refine cP h Vt p1 fun v3 h => ?_;refine cP h We p3 fun v5 h => ?_;refine iL h fun h => ?_;apply iU h <;> intro h
 ·refine cP h Uj p1 fun v9 h => ?_;refine iL h fun h => ?_;refine iL h fun h => ?_;refine cP h Wn p1 fun v13 h => ?_;apply iU h <;> intro h
  ·exact iB h
  apply iU h <;> intro h
  ·refine iL h fun h => ?_;refine iL h fun h => ?_;refine cP h Zh (.cons q4 .nil) fun v20 h => ?_;cases h; exact (.p _)
  apply iU h <;> intro h
  ·refine iL h fun h => ?_;refine iL h fun h => ?_;refine cP h Zh (.cons q4 .nil) fun v25 h => ?_;cases h; exact (.p _)
  refine iL h fun h => ?_;refine cP h Zh (.cons q4 .nil) fun v28 h => ?_;cases h; exact (.p _)
 refine iL h fun h => ?_;refine cP h Wn p1 fun v31 h => ?_;apply iU h <;> intro h
 ·exact iB h
 apply iU h <;> intro h
 ·refine iL h fun h => ?_;refine iL h fun h => ?_;refine cP h Zh (.cons q4 .nil) fun v38 h => ?_;cases h; exact (.p _)
 apply iU h <;> intro h
 ·refine iL h fun h => ?_;refine iL h fun h => ?_;refine cP h Zh (.cons q4 .nil) fun v43 h => ?_;cases h; exact (.p _)
 refine iL h fun h => ?_;refine cP h Zh (.cons q4 .nil) fun v46 h => ?_;cases h; exact (.p _)
def Xx (_N : Nat) (v : Q2) : Option Bool :=
 cond (Q7f .neq v.Text [])
 (some false)
 (cond (Qi .eql v.Kind 24)
 (cond (Qi .geq v.N' 1)
 (some (Qi .leq v.N' 24))
 (some false))
 (cond (Qi .neq v.N' 0)
 (some false)
 (cond (Qi .eql v.Kind 25)
 (some (Qi .eql ((Q2.rows v.Items).length : Int) 2))
 (cond (Qi .eql v.Kind 23)
 (some (Qi .eql ((((Q2.rows v.Items).length : Int) : Int).tmod 2) 0))
 (some true)))))
theorem Jk {N} {v} {r} (h : Xx N v = some r) : pU 99 [.agg (Q2.cells v)] (.bool r) := by
 refine Q8 k99 ?_;unfold Xx at h;rw [cX, cY] at h;refine iL h fun h => ?_;apply iU h <;> intro h
 ·exact iB h
 refine iL h fun h => ?_;refine iL h fun h => ?_;exact iB h
def Ye (_N : Nat) (v : Q2) : Option Bool :=
 cond (Qi .eql v.Kind 11)
 (cond (Qi .eql (Qab .u64 (Qb1 .u64 v.N' 23) 255) 255)
 (some (Qi .neq (Q5q .u64 v.N' 41) 0))
 (some false))
 (cond (Qi .eql v.Kind 12)
 (cond (Qi .eql (Qab .u64 (Qb1 .u64 v.N' 52) 2047) 2047)
 (some (Qi .neq (Q5q .u64 v.N' 12) 0))
 (some false))
 (some false))
theorem Xt {N} {v} {r} (h : Ye N v = some r) : pU 160 [.agg (Q2.cells v)] (.bool r) := by
 refine Q8 Qmj ?_;unfold Ye at h;rw [cX] at h;apply iU h <;> intro h
 ·exact iB h
 refine iR h fun h => ?_;exact iB h
def Zn (rw1 : Q2 → Q2 → Option Bool) (N : Nat) (a : Q2) (b : Q2) : Nat → Int → Option Bool
 | 0, _ => none
 | n + 1, s28 =>
  cond (Qi .lss s28 ((Q2.rows a.Items).length : Int))
  ((idx a.Items s28).bind fun y30 =>
  (idx b.Items s28).bind fun y32 =>
  (rw1 y30 y32).bind fun v34 =>
  cond (!v34)
  (some false)
  (Zn rw1 N a b n (wrap .i64 (s28 + 1))))
  (some true)
def Zk (rw1 : Q2 → Q2 → Option Bool) (N : Nat) (a : Q2) (b : Q2) : Nat → Int → Option Bool
 | 0, _ => none
 | n + 1, s54 =>
  cond (Qi .lss s54 ((Q2.rows a.Items).length : Int))
  ((idx a.Items s54).bind fun y56 =>
  (idx b.Items s54).bind fun y58 =>
  (rw1 y56 y58).bind fun v60 =>
  cond (!v60)
  (some false)
  (Zk rw1 N a b n (wrap .i64 (s54 + 1))))
  (some true)
def Wm (rw1 : Q2 → Q2 → Option Bool) (N : Nat) (a : Q2) (b : Q2) : Option Bool :=
 cond (Qi .neq a.Kind b.Kind)
 (some false)
 (cond (Q7f .neq a.Text b.Text)
 (some false)
 (cond (Qi .neq ((Q2.rows a.Items).length : Int) ((Q2.rows b.Items).length : Int))
 (some false)
 (cond (Qi .neq a.N' b.N')
 ((Ye N a).bind fun v5 =>
 cond v5
 ((Ye N b).bind fun v8 =>
 cond (!v8)
 (some false)
 (Zn rw1 N a b N 0))
 (some false))
 (Zk rw1 N a b N 0))))
theorem Ge {rw1 : Q2 → Q2 → Option Bool} (hy3 : ∀ {a} {b} {r}, rw1 a b = some r → pU 129 [.agg (Q2.cells a), .agg (Q2.cells b)] (.bool r)) {N} {a} {b} {r} (h : Wm rw1 N a b = some r) : pU 129 [.agg (Q2.cells a), .agg (Q2.cells b)] (.bool r) := by
 refine Q8 Qkv ?_;unfold Wm at h;rw [cX, cY] at h;refine iL h fun h => ?_;refine iL h fun h => ?_;refine iL h fun h => ?_;apply iU h <;> intro h
 ·refine cP h Xt (.cons q4 .nil) fun v5 h => ?_;refine iR h fun h => ?_;refine cP h Xt (.cons q4 .nil) fun v8 h => ?_;refine iL h fun h => ?_;refine lpH (τ := Int) (fun s28 => (.any :: .any :: .ptr 0 0 :: .ptr 1 0 :: a16 (a16 (a4 (a2 (.any :: iI ((Q2.rows a.Items).length : Int) :: iI s28 :: a8 (a4 (a2 (.any :: []))))))) : List AV)) (fun n0 s28 => Zn rw1 N a b n0 s28) (0) h fun n0 s28 h => ?_
  first | rw [Zn] at h | simp only [Zn] at h
  rw [cX] at h;refine iR h fun h => ?_;refine Z1 ?_;refine Q2.xR h fun y30 h => ?_;refine Q2.xR h fun y32 h => ?_;refine cD h hy3 (.cons q4 (.cons q4 .nil)) fun v34 h => ?_;refine iL h fun h => ?_;show Exists _;exact ⟨(n0, (wrap .i64 (s28 + 1))), h, Lq _, (fun i => i), Ud⟩
 refine lpH (τ := Int) (fun s54 => (.any :: .any :: .ptr 0 0 :: .ptr 1 0 :: a16 (a16 (a4 (a2 (.any :: iI ((Q2.rows a.Items).length : Int) :: iI s54 :: a8 (a4 (a2 (.any :: []))))))) : List AV)) (fun n1 s54 => Zk rw1 N a b n1 s54) (0) h fun n1 s54 h => ?_
 first | rw [Zk] at h | simp only [Zk] at h
 rw [cX] at h;refine iR h fun h => ?_;refine Z1 ?_;refine Q2.xR h fun y56 h => ?_;refine Q2.xR h fun y58 h => ?_;refine cD h hy3 (.cons q4 (.cons q4 .nil)) fun v60 h => ?_;refine iL h fun h => ?_;show Exists _;exact ⟨(n1, (wrap .i64 (s54 + 1))), h, Lq _, (fun i => i), Ud⟩
def X6 : Nat → Q2 → Q2 → Option Bool
 | 0 => fun _ _ => none
 | N + 1 => Wm (X6 N) N
theorem Gc {N} {a} {b} {r} (h : X6 N a b = some r) : pU 129 [.agg (Q2.cells a), .agg (Q2.cells b)] (.bool r) := by
 induction N generalizing a b r with
 | zero => simp [X6] at h
 | succ N ih => exact Ge (fun h => ih h) h
def Zt (N : Nat) (k0 : Int → Option Int) (v : Q2) (i56 : Int) : Nat → Int → Option Int
 | 0, _ => none
 | n + 1, k75 =>
  cond (Qi .lss k75 i56)
  ((idx v.Items i56).bind fun y77 =>
  (idx v.Items k75).bind fun y79 =>
  (X6 N y77 y79).bind fun v81 =>
  cond v81
  (some 16)
  (Zt N k0 v i56 n (wrap .i64 (k75 + 2))))
  (k0 (wrap .i64 (i56 + 2)))
def Za (N : Nat) (v : Q2) : Nat → Int → Option Int
 | 0, _ => none
 | n + 1, i56 =>
  cond (Qi .lss i56 ((Q2.rows v.Items).length : Int))
  (Zt N (Za N v n) v i56 N 0)
  (some 0)
def V1 (N : Nat) (v : Q2) : Option Int :=
 cond (Qi .neq v.Kind 23)
 (some 0)
 (Za N v N 2)
theorem Q06 {N} {v} {r} (h : V1 N v = some r) : pU 100 [.agg (Q2.cells v)] (.int .i64 r) := by
 refine Q8 Qq7 ?_;unfold V1 at h;rw [cX] at h;refine iL h fun h => ?_;refine lpH (τ := Int) (fun i56 => (.any :: .ptr 0 0 :: .any :: iI i56 :: a16 (a8 (a2 (.any :: []))) : List AV)) (fun n0 i56 => Za N v n0 i56) (2) h fun n0 i56 h => ?_
 first | rw [Za] at h | simp only [Za] at h
 rw [cX] at h;refine iR h fun h => ?_;refine lpH (τ := Int) (fun k75 => (.any :: .ptr 0 0 :: .any :: iI i56 :: iI k75 :: a16 (a8 (a2 ([]))) : List AV)) (fun n1 k75 => Zt N (Za N v n0) v i56 n1 k75) (0) h fun n1 k75 h => ?_
 first | rw [Zt] at h | simp only [Zt] at h
 rw [cX] at h;apply iU h <;> intro h
 ·refine Z1 ?_;refine Q2.xR h fun y77 h => ?_;refine Q2.xR h fun y79 h => ?_;refine cD h Gc (.cons q4 (.cons q4 .nil)) fun v81 h => ?_;refine iL h fun h => ?_;show Exists _;exact ⟨(n1, (wrap .i64 (k75 + 2))), h, Lq _, (fun i => i), Ud⟩
 show Exists _;exact ⟨(n0, (wrap .i64 (i56 + 2))), h, Lq _, (fun i => i), Ud⟩
def Qq (rx1 : Q2 → Int → Option Int) (N : Nat) (v : Q2) (most : Int) : Nat → Int → Option Int
 | 0, _ => none
 | n + 1, s34 =>
  cond (Qi .lss s34 ((Q2.rows v.Items).length : Int))
  ((idx v.Items s34).bind fun y36 =>
  cond (Qi .eql v.Kind 24)
  (cond (Qi .neq (wrap .u64 y36.Kind) v.N')
  (some 8)
  ((rx1 y36 (wrap .i64 (most - 1))).bind fun v40 =>
  cond (Qi .neq v40 0)
  (some v40)
  (Qq rx1 N v most n (wrap .i64 (s34 + 1)))))
  ((rx1 y36 (wrap .i64 (most - 1))).bind fun v43 =>
  cond (Qi .neq v43 0)
  (some v43)
  (Qq rx1 N v most n (wrap .i64 (s34 + 1)))))
  ((V1 N v).bind fun v46 =>
  some v46)
def Xh (rx1 : Q2 → Int → Option Int) (N : Nat) (v : Q2) (most : Int) : Option Int :=
 cond (Qi .lss v.Kind 1)
 (some 8)
 (cond (Qi .gtr v.Kind 25)
 (some 8)
 (cond (Qi .leq v.Kind 21)
 ((Xg N v).bind fun v4 =>
 some v4)
 (cond (Qi .eql most 0)
 (some 14)
 ((Xx N v).bind fun v7 =>
 cond (!v7)
 (some 2)
 (cond (Qi .gtr ((Q2.rows v.Items).length : Int) 1000)
 (some 4)
 (Qq rx1 N v most N 0))))))
theorem Ul {rx1 : Q2 → Int → Option Int} (hv2 : ∀ {v} {most} {r}, rx1 v most = some r → Qaw Tryz.prog G1 97 [.agg (Q2.cells v), .int .i64 most] (.int .i64 r)) {N} {v} {most} {r} (h : Xh rx1 N v most = some r) : Qaw Tryz.prog G1 97 [.agg (Q2.cells v), .int .i64 most] (.int .i64 r) := by
 refine Qa7 k97 ?_;unfold Xh at h;rw [cX] at h;apply iU h <;> intro h
 ·obtain rfl := Yg h; exact ⟨_, rfl, (.p _)⟩
 apply iU h <;> intro h
 ·obtain rfl := Yg h; exact ⟨_, rfl, (.p _)⟩
 apply iU h <;> intro h
 ·refine cP h Vb (.cons q4 .nil) fun v4 h => ?_;obtain rfl := Yg h; exact ⟨_, rfl, (.p _)⟩
 apply iU h <;> intro h
 ·obtain rfl := Yg h; exact ⟨_, rfl, (.p _)⟩
 refine cP h Jk (.cons q4 .nil) fun v7 h => ?_;apply iU h <;> intro h
 ·obtain rfl := Yg h; exact ⟨_, rfl, (.p _)⟩
 apply iU h <;> intro h
 ·obtain rfl := Yg h; exact ⟨_, rfl, (.p _)⟩
 refine lpH (τ := Int) (fun s34 => (.any :: iI most :: .ptr 0 0 :: .ptr 1 0 :: a16 (a16 (.any :: .p (.slice 4 (Q2.rows v.Items)) :: iI ((Q2.rows v.Items).length : Int) :: iI s34 :: a16 (a8 (.any :: [])))) : List AV)) (fun n0 s34 => Qq rx1 N v most n0 s34) (0) h fun n0 s34 h => ?_
 first | rw [Qq] at h | simp only [Qq] at h
 rw [cX] at h;apply iU h <;> intro h
 ·refine Q2.xR h fun y36 h => ?_;apply iU h <;> intro h
  ·apply iU h <;> intro h
   ·obtain rfl := Yg h; exact ⟨_, rfl, (.p _)⟩
   obtain ⟨v40, hv41, h⟩ := Gb h;refine Q37 (hv2 hv41) (.cons q4 p1) rfl rfl ?_;apply iU h <;> intro h
   ·obtain rfl := Yg h; exact ⟨_, rfl, (.p _)⟩
   show Exists _;exact ⟨(n0, (wrap .i64 (s34 + 1))), h, Lq _, (fun i => i), Ud⟩
  obtain ⟨v43, hv44, h⟩ := Gb h;refine Q37 (hv2 hv44) (.cons q4 p1) rfl rfl ?_;apply iU h <;> intro h
  ·obtain rfl := Yg h; exact ⟨_, rfl, (.p _)⟩
  show Exists _;exact ⟨(n0, (wrap .i64 (s34 + 1))), h, Lq _, (fun i => i), Ud⟩
 refine cP h Q06 (.cons q4 .nil) fun v46 h => ?_;obtain rfl := Yg h; exact ⟨_, rfl, (.p _)⟩
def Ym : Nat → Q2 → Int → Option Int
 | 0 => fun _ _ => none
 | N + 1 => Xh (Ym N) N
theorem Us {N} {v} {most} {r} (h : Ym N v most = some r) : Qaw Tryz.prog G1 97 [.agg (Q2.cells v), .int .i64 most] (.int .i64 r) := by
 induction N generalizing v most r with
 | zero => simp [Ym] at h
 | succ N ih => exact Ul (fun h => ih h) h
def X5 (N : Nat) (v : Q2) (most : Int) : Option Int :=
 (X0 N most).bind fun v1 =>
 cond (!v1)
 (some 2)
 ((Ym N v most).bind fun v4 =>
 some v4)
theorem V3 {N} {v} {most} {r} (h : X5 N v most = some r) : pU 74 [.agg (Q2.cells v), .int .i64 most] (.int .i64 r) := by
 refine Q8 k74 ?_;unfold X5 at h;refine cP h Vw p1 fun v1 h => ?_;refine iL h fun h => ?_;obtain ⟨v4, hv5, h⟩ := Gb h;refine Q37 (Us hv5) (.cons q4 p1) rfl rfl ?_;cases h; exact (.p _)
def Vi (N : Nat) (c : Q6n) (v : Q2) : Option Bool :=
 cond (Qi .eql c.Code 65)
 (some (Qi .eql v.N' 1))
 (cond c.Sized
 (cond (Qi .eql c.Width 4)
 (some true)
 (some (Qi .leq (v.Text.length : Int) 255)))
 (cond (Qi .eql c.Width 0)
 (some (Qi .eql v.N' 0))
 (cond (Qi .eql c.Width 1)
 ((W3 N c.Kind).bind fun v6 =>
 (Yo N v.N' 8 v6.2).bind fun v8 =>
 some v8)
 (some true))))
theorem Q0h {N} {c} {v} {r} (h : Vi N c v = some r) : pU 202 [.agg (Q6n.cells c), .agg (Q2.cells v)] (.bool r) := by
 refine Q8 Qo0 ?_;unfold Vi at h;rw [cX] at h;refine iL h fun h => ?_;apply iU h <;> intro h
 ·exact iB h
 refine iL h fun h => ?_;refine iR h fun h => ?_;refine cP h Vt p1 fun v6 h => ?_;refine cP h We p3 fun v8 h => ?_;cases h; exact (.p _)
def Vk (N : Nat) (code : Int) (v : Q2) : Option Bool :=
 (Ve N code).bind fun v1 =>
 cond v1.2
 (cond (Qi .eql v1.1.Kind v.Kind)
 ((Xg N v).bind fun v5 =>
 cond (Qi .eql v5 0)
 ((Vi N v1.1 v).bind fun v8 =>
 some v8)
 (some false))
 (some false))
 (some false)
theorem Q0r {N} {code} {v} {r} (h : Vk N code v = some r) : pU 177 [.int .i64 code, .agg (Q2.cells v)] (.bool r) := by
 refine Q8 Qsc ?_;unfold Vk at h;rw [cX] at h;refine cP h V0 p1 fun v1 h => ?_;refine iR h fun h => ?_;refine iR h fun h => ?_;refine cP h Vb (.cons q4 .nil) fun v5 h => ?_;refine iR h fun h => ?_;refine cP h Q0h (.cons (Frz.agg' p5) (.cons q4 .nil)) fun v8 h => ?_;cases h; exact (.p _)
def X1 (N : Nat) (f : Q0) (code : Int) : Option Bool :=
 (Ve N code).bind fun v1 =>
 cond (!v1.1.Items)
 ((Vk N code f.v).bind fun v4 =>
 some v4)
 (cond (Qi .eql v1.1.Kind 25)
 (some true)
 (cond (!v1.1.Sized)
 (some (Qi .eql ((Q0.rows f.kids).length : Int) 0))
 (cond (Qi .eql v1.1.Width 4)
 (some true)
 (cond (Qi .leq (wrap .i64 (f.inner + 1)) 255)
 (some (Qi .leq ((Q0.rows f.kids).length : Int) 255))
 (some false)))))
theorem U7 {N} {f} {code} {r} (h : X1 N f code = some r) : pU 162 [.agg (Q0.cells f), .int .i64 code] (.bool r) := by
 refine Q8 Qo2 ?_;unfold X1 at h;rw [cX] at h;refine cP h V0 p1 fun v1 h => ?_;apply iU h <;> intro h
 ·refine cP h Q0r (.cons (.p _) (.cons q4 .nil)) fun v4 h => ?_;cases h; exact (.p _)
 refine iL h fun h => ?_;refine iL h fun h => ?_;refine iL h fun h => ?_;exact iB h
def Qx (N : Nat) (k0 : Int → Option Int) (l : List Q0) (s54 : Int) (y56 : Int) : Nat → Bool → Int → Option Int
 | 0, _, _ => none
 | n + 1, all71, s72 =>
  cond (Qi .lss s72 ((Q0.rows l).length : Int))
  ((idx l s72).bind fun y74 =>
  cond all71
  ((X1 N y74 y56).bind fun v77 =>
  Qx N k0 l s54 y56 n v77 (wrap .i64 (s72 + 1)))
  (Qx N k0 l s54 y56 n false (wrap .i64 (s72 + 1))))
  (cond all71
  (some y56)
  (k0 (wrap .i64 (s54 + 1))))
def Qw (N : Nat) (l : List Q0) (v1 : List Int) : Nat → Int → Option Int
 | 0, _ => none
 | n + 1, s54 =>
  cond (Qi .lss s54 ((Zc (cI .i64) v1).length : Int))
  ((idx v1 s54).bind fun y56 =>
  Qx N (Qw N l v1 n) l s54 y56 N true 0)
  (some 0)
def X3 (N : Nat) (kind : Int) (l : List Q0) : Option Int :=
 (Uy N kind).bind fun v1 =>
 Qw N l v1 N 0
theorem Wz {N} {kind} {l} {r} (h : X3 N kind l = some r) : pU 132 [.int .i64 kind, .slice 7 (Q0.rows l)] (.int .i64 r) := by
 refine Q8 Qo5 ?_;unfold X3 at h;refine cP h Q05 p1 fun v1 h => ?_;refine lpH (τ := Int) (fun s54 => (.any :: .p (.slice 7 (Q0.rows l)) :: a8 (.any :: .p (.slice 1 (Zc (cI .i64) v1)) :: .p (.int .i64 ((Zc (cI .i64) v1).length : Int)) :: iI s54 :: a16 (a2 (.any :: []))) : List AV)) (fun n0 s54 => Qw N l v1 n0 s54) (0) h fun n0 s54 h => ?_
 first | rw [Qw] at h | simp only [Qw] at h
 rw [cX] at h;refine iR h fun h => ?_;refine xR h fun y56 h => ?_;refine lpH (τ := Bool × Int) (fun ⟨all71, s72⟩ => (.any :: .p (.slice 7 (Q0.rows l)) :: a4 (iI y56 :: .p (.bool all71) :: a2 (.any :: .p (.slice 1 (Zc (cI .i64) v1)) :: .p (.int .i64 ((Zc (cI .i64) v1).length : Int)) :: iI s54 :: a2 (.any :: .p (.slice 7 (Q0.rows l)) :: iI ((Q0.rows l).length : Int) :: iI s72 :: a8 (a4 (.any :: []))))) : List AV)) (fun n1 ⟨all71, s72⟩ => Qx N (Qw N l v1 n0) l s54 y56 n1 all71 s72) (true, 0) h fun n1 ⟨all71, s72⟩ h => ?_
 first | rw [Qx] at h | simp only [Qx] at h
 rw [cX] at h;apply iU h <;> intro h
 ·refine Q0.xR h fun y74 h => ?_;apply iU h <;> intro h
  ·refine cP h U7 (.cons (Frz.agg' (.cons (.p _) (.cons (.p _) p5))) p1) fun v77 h => ?_;show Exists _;exact ⟨(n1, v77, (wrap .i64 (s72 + 1))), h, Lq _, (fun i => i), Ud⟩
  show Exists _;exact ⟨(n1, false, (wrap .i64 (s72 + 1))), h, Lq _, (fun i => i), Ud⟩
 refine iL h fun h => ?_;show Exists _;exact ⟨(n0, (wrap .i64 (s54 + 1))), h, Lq _, (fun i => i), Ud⟩
def Y4 (N : Nat) (f : Q0) : Option Int :=
 (X3 N f.v.Kind [f]).bind fun v1 =>
 some v1
theorem Xj {N} {f} {r} (h : Y4 N f = some r) : pU 103 [.agg (Q0.cells f)] (.int .i64 r) := by
 refine Q8 Qjj ?_;unfold Y4 at h;refine cK h Wz (.cons (.p _) (.cons (Q0.frz_own (l := [f]) rfl trivial sd) .nil)) fun v1 h => ?_;cases h; exact (.p _)
def X2 (rz1 : Q0 → Int → Option Int) (ry1 : Q0 → Option Int) (N : Nat) (f : Q0) (code : Int) : Option Int :=
 (Ve N code).bind fun v1 =>
 cond (Qi .eql v1.1.Kind 25)
 ((ry1 f).bind fun v4 =>
 some v4)
 (cond v1.1.Items
 (cond v1.1.Sized
 (some (wrap .i64 ((wrap .i64 (2 * v1.1.Width)) + f.inner)))
 (some v1.1.Width))
 (cond v1.1.Sized
 (some (wrap .i64 (v1.1.Width + (f.v.Text.length : Int))))
 (some v1.1.Width)))
theorem U1 {rz1 : Q0 → Int → Option Int} {ry1 : Q0 → Option Int} (hx2 : ∀ {f} {code} {r}, rz1 f code = some r → pU 102 [.agg (Q0.cells f), .int .i64 code] (.int .i64 r)) (hw2 : ∀ {f} {r}, ry1 f = some r → pU 130 [.agg (Q0.cells f)] (.int .i64 r)) {N} {f} {code} {r} (h : X2 rz1 ry1 N f code = some r) : pU 102 [.agg (Q0.cells f), .int .i64 code] (.int .i64 r) := by
 refine Q8 Qsb ?_;unfold X2 at h;rw [cX] at h;refine cP h V0 p1 fun v1 h => ?_;apply iU h <;> intro h
 ·refine cP h hw2 (.cons (Frz.agg' (.cons (.p _) (.cons (.p _) p5))) .nil) fun v4 h => ?_;cases h; exact (.p _)
 apply iU h <;> intro h
 ·refine oL h fun hc7 h => ?_;refine ifF hc7 ?_;cases h; exact (.p _)
 exact iB h
def Qs (rz1 : Q0 → Int → Option Int) (N : Nat) (f : Q0) : Nat → Int → Int → Option Int
 | 0, _, _ => none
 | n + 1, n17, s18 =>
  cond (Qi .lss s18 ((Q0.rows f.kids).length : Int))
  ((idx f.kids s18).bind fun y20 =>
  (Y4 N y20).bind fun v22 =>
  (rz1 y20 v22).bind fun v24 =>
  Qs rz1 N f n (wrap .i64 (n17 + (wrap .i64 (1 + v24)))) (wrap .i64 (s18 + 1)))
  (some n17)
def Yr (rz1 : Q0 → Int → Option Int) (ry1 : Q0 → Option Int) (N : Nat) (f : Q0) : Option Int :=
 Qs rz1 N f N 0 0
theorem Vp {rz1 : Q0 → Int → Option Int} {ry1 : Q0 → Option Int} (hx2 : ∀ {f} {code} {r}, rz1 f code = some r → pU 102 [.agg (Q0.cells f), .int .i64 code] (.int .i64 r)) (hw2 : ∀ {f} {r}, ry1 f = some r → pU 130 [.agg (Q0.cells f)] (.int .i64 r)) {N} {f} {r} (h : Yr rz1 ry1 N f = some r) : pU 130 [.agg (Q0.cells f)] (.int .i64 r) := by
 refine Q8 Qpk ?_;unfold Yr at h;refine lpH (τ := Int × Int) (fun ⟨n17, s18⟩ => (a2 (.any :: iI n17 :: a2 (.any :: .p (.slice 7 (Q0.rows f.kids)) :: iI ((Q0.rows f.kids).length : Int) :: iI s18 :: a8 (a4 ([])))) : List AV)) (fun n0 ⟨n17, s18⟩ => Qs rz1 N f n0 n17 s18) (0, 0) h fun n0 ⟨n17, s18⟩ h => ?_
 first | rw [Qs] at h | simp only [Qs] at h
 rw [cX] at h;refine iR h fun h => ?_;refine Q0.xR h fun y20 h => ?_;refine Z1 ?_;refine cD h Xj (.cons (Frz.agg' (.cons (.p _) (.cons (.p _) p5))) .nil) fun v22 h => ?_;refine cD h hx2 (.cons (Frz.agg' (.cons (.p _) (.cons (.p _) p5))) p1) fun v24 h => ?_;show Exists _;exact ⟨(n0, (wrap .i64 (n17 + (wrap .i64 (1 + v24)))), (wrap .i64 (s18 + 1))), h, Lq _, (fun i => i), Ud⟩
def Qj : Nat → (Q0 → Int → Option Int) × (Q0 → Option Int)
 | 0 => (fun _ _ => none, fun _ => none)
 | N + 1 => (X2 ((Qj N).1) ((Qj N).2) N, Yr ((Qj N).1) ((Qj N).2) N)
def Yz (N : Nat) : Q0 → Int → Option Int := (Qj N).1
def Z5 (N : Nat) : Q0 → Option Int := (Qj N).2
theorem Xk : ∀ N, (∀ {f : Q0} {code : Int} {r : Int}, (Qj N).1 f code = some r → pU 102 [.agg (Q0.cells f), .int .i64 code] (.int .i64 r)) ∧ (∀ {f : Q0} {r : Int}, (Qj N).2 f = some r → pU 130 [.agg (Q0.cells f)] (.int .i64 r)) := by
 intro N
 induction N with
 | zero => exact ⟨(fun h => by simp [Qj] at h), (fun h => by simp [Qj] at h)⟩
 | succ N ih => exact ⟨(fun h => U1 (N := N) (fun h => ih.1 h) (fun h => ih.2 h) h), (fun h => Vp (N := N) (fun h => ih.1 h) (fun h => ih.2 h) h)⟩
theorem Xp {N : Nat} {f : Q0} {code : Int} {r : Int} (h : Yz N f code = some r) : pU 102 [.agg (Q0.cells f), .int .i64 code] (.int .i64 r) := (Xk N).1 h
theorem Z7 {N : Nat} {f : Q0} {r : Int} (h : Z5 N f = some r) : pU 130 [.agg (Q0.cells f)] (.int .i64 r) := (Xk N).2 h
def Qr (N : Nat) (f : Q0) : Nat → Int → Int → Option Int
 | 0, _, _ => none
 | n + 1, n13, s14 =>
  cond (Qi .lss s14 ((Q0.rows f.kids).length : Int))
  ((idx f.kids s14).bind fun y16 =>
  (Yz N y16 f.element).bind fun v18 =>
  Qr N f n (wrap .i64 (n13 + v18)) (wrap .i64 (s14 + 1)))
  (some n13)
def Zy (N : Nat) (f : Q0) : Option Int :=
 Qr N f N 1 0
theorem Xc {N} {f} {r} (h : Zy N f = some r) : pU 131 [.agg (Q0.cells f)] (.int .i64 r) := by
 refine Q8 Qlt ?_;unfold Zy at h;refine lpH (τ := Int × Int) (fun ⟨n13, s14⟩ => (.any :: .ptr 0 0 :: .any :: iI n13 :: a2 (.any :: .p (.slice 7 (Q0.rows f.kids)) :: iI ((Q0.rows f.kids).length : Int) :: iI s14 :: a8 (a2 (.any :: []))) : List AV)) (fun n0 ⟨n13, s14⟩ => Qr N f n0 n13 s14) (1, 0) h fun n0 ⟨n13, s14⟩ h => ?_
 first | rw [Qr] at h | simp only [Qr] at h
 rw [cX] at h;refine iR h fun h => ?_;refine Q0.xR h fun y16 h => ?_;refine cP h Xp (.cons (Frz.agg' (.cons (.p _) (.cons (.p _) p5))) p1) fun v18 h => ?_;show Exists _;exact ⟨(n0, (wrap .i64 (n13 + v18)), (wrap .i64 (s14 + 1))), h, Lq _, (fun i => i), Ud⟩
def Zd (rv : Q2 → Option (Q0)) (N : Nat) (v : Q2) : Nat → Int → (List Q0) → Option (Q0)
 | 0, _, _ => none
 | n + 1, s14, l15 =>
  cond (Qi .lss s14 ((Q2.rows v.Items).length : Int))
  ((idx v.Items s14).bind fun y17 =>
  (rv y17).bind fun v19 =>
  cond (Nat.ble ((l15.length + 1 + 4096) * 96) 17592186044416) (Zd rv N v n (wrap .i64 (s14 + 1)) (l15 ++ [v19])) none)
  (cond (Qi .eql v.Kind 24)
  ((X3 N (wrap .i64 v.N') l15).bind fun v23 =>
  cond ((v.Kind : Int) == 22)
  ((Z5 N (⟨v, l15, v23, 0⟩ : Q0)).bind fun v26 =>
  some (⟨v, l15, v23, v26⟩ : Q0))
  (cond ((v.Kind : Int) == 23)
  ((Z5 N (⟨v, l15, v23, 0⟩ : Q0)).bind fun v29 =>
  some (⟨v, l15, v23, v29⟩ : Q0))
  (cond ((v.Kind : Int) == 24)
  ((Zy N (⟨v, l15, v23, 0⟩ : Q0)).bind fun v32 =>
  some (⟨v, l15, v23, v32⟩ : Q0))
  (some (⟨v, l15, v23, 0⟩ : Q0)))))
  (cond ((v.Kind : Int) == 22)
  ((Z5 N (⟨v, l15, 0, 0⟩ : Q0)).bind fun v35 =>
  some (⟨v, l15, 0, v35⟩ : Q0))
  (cond ((v.Kind : Int) == 23)
  ((Z5 N (⟨v, l15, 0, 0⟩ : Q0)).bind fun v38 =>
  some (⟨v, l15, 0, v38⟩ : Q0))
  (cond ((v.Kind : Int) == 24)
  ((Zy N (⟨v, l15, 0, 0⟩ : Q0)).bind fun v41 =>
  some (⟨v, l15, 0, v41⟩ : Q0))
  (some (⟨v, l15, 0, 0⟩ : Q0))))))
def Xu (rv : Q2 → Option (Q0)) (N : Nat) (v : Q2) : Option (Q0) :=
 Zd rv N v N 0 []
theorem Jm {rv : Q2 → Option (Q0)} (hy2 : ∀ {v} {r}, rv v = some r → pU 101 [.agg (Q2.cells v)] (.agg (Q0.cells r))) {N} {v} {r} (h : Xu rv N v = some r) : pU 101 [.agg (Q2.cells v)] (.agg (Q0.cells r)) := by
 refine Q8 Qot ?_;unfold Xu at h;refine lpA (τ := Int × (List Q0)) (fun ⟨s14, _⟩ => (.any :: .ptr 0 0 :: .ptr 1 0 :: .ptr 2 0 :: a8 (.p (.slice 4 (Q2.rows v.Items)) :: iI ((Q2.rows v.Items).length : Int) :: iI s14 :: a16 (a16 (a4 ([])))) : List AV)) (fun ⟨_, l15⟩ => (.cells (iI v.Kind :: iW v.N' :: iS v.Text :: .p (.slice 4 (Q2.rows v.Items)) :: []) :: .cells (iI 0 :: iW 0 :: iS [] :: .p .nilSlice :: .p .nilSlice :: iI 0 :: iI 0 :: []) :: .cells (iI v.Kind :: iW v.N' :: iS v.Text :: .p (.slice 4 (Q2.rows v.Items)) :: .slice 7 3 0 l15.length :: iI 0 :: iI 0 :: []) :: .cells (Wg Q0.cells l15) :: [] : List AObj)) (fun n0 ⟨s14, l15⟩ => Zd rv N v n0 s14 l15) (0, []) h fun n0 ⟨s14, l15⟩ h => ?_
 first | rw [Zd] at h | simp only [Zd] at h
 rw [cX] at h;apply iU h <;> intro h
 ·refine Q2.xR h fun y17 h => ?_;refine Z1 ?_;refine cD h hy2 (.cons q4 .nil) fun v19 h => ?_;obtain ⟨hk21, h⟩ := Qiu h;refine Qfj (Qcf (c := Q0.cells) (e := 7) (fun _ => rfl) sd hk21) ?_;refine Qez (c := Q0.cells) [v19] rfl ?_;show Exists _;exact ⟨(n0, (wrap .i64 (s14 + 1)), (l15 ++ [v19])), h, Lq _, (rho [0, 1, 2, 6]), Ud⟩
 apply iU h <;> intro h
 ·refine cK h Wz (.cons (.p _) (.cons (Q0.frz_own (l := l15) rfl trivial sd) .nil)) fun v23 h => ?_;apply iU h <;> intro h
  ·refine cK h Z7 (.cons (Frz.agg' (f4_ (.cons (Q0.frz_own (l := l15) rfl trivial sd) p2))) .nil) fun v26 h => ?_;obtain rfl := Yg h; exact (Frz.agg' (f4_ (.cons (Q0.frz_own (l := l15) rfl trivial sd) p2)))
  apply iU h <;> intro h
  ·refine cK h Z7 (.cons (Frz.agg' (f4_ (.cons (Q0.frz_own (l := l15) rfl trivial sd) p2))) .nil) fun v29 h => ?_;obtain rfl := Yg h; exact (Frz.agg' (f4_ (.cons (Q0.frz_own (l := l15) rfl trivial sd) p2)))
  apply iU h <;> intro h
  ·refine cK h Xc (.cons (Frz.agg' (f4_ (.cons (Q0.frz_own (l := l15) rfl trivial sd) p2))) .nil) fun v32 h => ?_;obtain rfl := Yg h; exact (Frz.agg' (f4_ (.cons (Q0.frz_own (l := l15) rfl trivial sd) p2)))
  obtain rfl := Yg h; exact (Frz.agg' (f4_ (.cons (Q0.frz_own (l := l15) rfl trivial sd) p2)))
 apply iU h <;> intro h
 ·refine cK h Z7 (.cons (Frz.agg' (f4_ (.cons (Q0.frz_own (l := l15) rfl trivial sd) p2))) .nil) fun v35 h => ?_;obtain rfl := Yg h; exact (Frz.agg' (f4_ (.cons (Q0.frz_own (l := l15) rfl trivial sd) p2)))
 apply iU h <;> intro h
 ·refine cK h Z7 (.cons (Frz.agg' (f4_ (.cons (Q0.frz_own (l := l15) rfl trivial sd) p2))) .nil) fun v38 h => ?_;obtain rfl := Yg h; exact (Frz.agg' (f4_ (.cons (Q0.frz_own (l := l15) rfl trivial sd) p2)))
 apply iU h <;> intro h
 ·refine cK h Xc (.cons (Frz.agg' (f4_ (.cons (Q0.frz_own (l := l15) rfl trivial sd) p2))) .nil) fun v41 h => ?_;obtain rfl := Yg h; exact (Frz.agg' (f4_ (.cons (Q0.frz_own (l := l15) rfl trivial sd) p2)))
 obtain rfl := Yg h; exact (Frz.agg' (f4_ (.cons (Q0.frz_own (l := l15) rfl trivial sd) p2)))
def Yv : Nat → Q2 → Option (Q0)
 | 0 => fun _ => none
 | N + 1 => Xu (Yv N) N
theorem Jl {N} {v} {r} (h : Yv N v = some r) : pU 101 [.agg (Q2.cells v)] (.agg (Q0.cells r)) := by
 induction N generalizing v r with
 | zero => simp [Yv] at h
 | succ N ih => exact Jm (fun h => ih h) h
def Zs (rz : Q2 → Option Q2) (N : Nat) (v : Q2) (c13 : Int) : Nat → Int → (List Q2) → Option Q2
 | 0, _, _ => none
 | n + 1, s39, l40 =>
  cond (Qi .lss s39 ((Q2.rows v.Items).length : Int))
  ((idx v.Items s39).bind fun y42 =>
  (rz y42).bind fun v44 =>
  cond (Nat.ble ((l40.length + 1 + 4096) * 56) 17592186044416) (Zs rz N v c13 n (wrap .i64 (s39 + 1)) (l40 ++ [v44])) none)
  (some (⟨v.Kind, c13, v.Text, l40⟩ : Q2))
def Qt (rz : Q2 → Option Q2) (N : Nat) (v : Q2) (c13 : Int) : Option Q2 :=
 Zs rz N v c13 N 0 []
def Zv (_N : Nat) (k0 : Int → Option Q2) (v : Q2) (s22 : Bool) : Option Q2 :=
 cond s22
 (k0 9221120237041090560)
 (k0 v.N')
def Zu (N : Nat) (k0 : Int → Option Q2) (v : Q2) (s16 : Bool) : Option Q2 :=
 cond s16
 (k0 2143289344)
 (cond (Qi .eql v.Kind 12)
 (cond (Qi .eql (Qab .u64 (Qb1 .u64 v.N' 52) 2047) 2047)
 (Zv N k0 v (Qi .neq (Q5q .u64 v.N' 12) 0))
 (Zv N k0 v false))
 (Zv N k0 v false))
def Wx (rz : Q2 → Option Q2) (N : Nat) (v : Q2) : Option Q2 :=
 cond (Qi .eql v.Kind 11)
 (cond (Qi .eql (Qab .u64 (Qb1 .u64 v.N' 23) 255) 255)
 (Zu N (Qt rz N v) v (Qi .neq (Q5q .u64 v.N' 41) 0))
 (Zu N (Qt rz N v) v false))
 (Zu N (Qt rz N v) v false)
theorem Gj {rz : Q2 → Option Q2} (hv1 : ∀ {v} {r}, rz v = some r → pU 76 [.agg (Q2.cells v)] (.agg (Q2.cells r))) {N} {v} {r} (h : Wx rz N v = some r) : pU 76 [.agg (Q2.cells v)] (.agg (Q2.cells r)) := by
 refine Q8 k76 ?_;unfold Wx at h;rw [cX] at h;refine jrA (r := r) (σ := Int) (fun _ => (.any :: .ptr 0 0 :: .ptr 1 0 :: .ptr 2 0 :: a16 (a16 (a16 (a8 (a4 (.any :: []))))) : List AV)) (fun c13 => (.cells (iI v.Kind :: iW v.N' :: iS v.Text :: .p (.slice 4 (Q2.rows v.Items)) :: []) :: .cells (iI 0 :: iW 0 :: iS [] :: .p .nilSlice :: []) :: .cells (iI v.Kind :: iW c13 :: iS v.Text :: .p .nilSlice :: []) :: [] : List AObj)) (fun c13 => Qt rz N v c13) ?_ ?_
 ·refine jrH (r := r) (σ := Bool) (fun s16 => (.any :: .ptr 0 0 :: .ptr 1 0 :: .ptr 2 0 :: a8 (.any :: .p (.bool s16) :: a16 (a16 (a16 (a2 (.any :: []))))) : List AV)) (fun s16 => Zu N (Qt rz N v) v s16) ?_ ?_
  ·apply iU h <;> intro h
   ·apply iU h <;> intro h
    ·show Exists _;exact ⟨((Qhw .neq (Q5q .u64 v.N' 41) 0)), h, (fun i => i), Ud⟩
    show Exists _;exact ⟨(false), h, (fun i => i), Ud⟩
   show Exists _;exact ⟨(false), h, (fun i => i), Ud⟩
  rintro s16 h
  unfold Zu at h;rw [cX] at h;apply iU h <;> intro h
  ·show Exists _;exact ⟨(2143289344), h, (fun i => i), Ud⟩
  refine jrH (r := r) (σ := Bool) (fun s22 => (.any :: .ptr 0 0 :: .ptr 1 0 :: .ptr 2 0 :: a16 (a8 (a2 (.any :: .p (.bool s22) :: a16 (a16 (.any :: []))))) : List AV)) (fun s22 => Zv N (Qt rz N v) v s22) ?_ ?_
  ·apply iU h <;> intro h
   ·apply iU h <;> intro h
    ·show Exists _;exact ⟨((Qhw .neq (Q5q .u64 v.N' 12) 0)), h, (fun i => i), Ud⟩
    show Exists _;exact ⟨(false), h, (fun i => i), Ud⟩
   show Exists _;exact ⟨(false), h, (fun i => i), Ud⟩
  rintro s22 h
  unfold Zv at h;apply iU h <;> intro h
  ·show Exists _;exact ⟨(9221120237041090560), h, (fun i => i), Ud⟩
  show Exists _;exact ⟨(v.N'), h, (fun i => i), Ud⟩
 rintro c13 h
 unfold Qt at h;refine lpA (τ := Int × (List Q2)) (fun ⟨s39, _⟩ => (.any :: .any :: .ptr 1 0 :: .ptr 2 0 :: a16 (a16 (a8 (a4 (a2 (.p (.slice 4 (Q2.rows v.Items)) :: iI ((Q2.rows v.Items).length : Int) :: iI s39 :: a8 (a4 ([]))))))) : List AV)) (fun ⟨_, l40⟩ => (.cells (iI v.Kind :: iW v.N' :: iS v.Text :: .p (.slice 4 (Q2.rows v.Items)) :: []) :: .cells (iI 0 :: iW 0 :: iS [] :: .p .nilSlice :: []) :: .cells (iI v.Kind :: iW c13 :: iS v.Text :: .slice 4 3 0 l40.length :: []) :: .cells (Wg Q2.cells l40) :: [] : List AObj)) (fun n3 ⟨s39, l40⟩ => Zs rz N v c13 n3 s39 l40) (0, []) h fun n3 ⟨s39, l40⟩ h => ?_
 first | rw [Zs] at h | simp only [Zs] at h
 rw [cX] at h;apply iU h <;> intro h
 ·refine Q2.xR h fun y42 h => ?_;refine Z1 ?_;refine cD h hv1 (.cons q4 .nil) fun v44 h => ?_;obtain ⟨hk46, h⟩ := Qiu h;refine Qfj (Qcf (c := Q2.cells) (e := 4) (fun _ => rfl) sd hk46) ?_;refine Qez (c := Q2.cells) [v44] rfl ?_;show Exists _;exact ⟨(n3, (wrap .i64 (s39 + 1)), (l40 ++ [v44])), h, Lq _, (rho [0, 1, 2, 6]), Ud⟩
 obtain rfl := Yg h; exact (Frz.agg' (f2_ (f1_ (.cons (Q2.frz_own (l := l40) rfl trivial sd) .nil))))
def Xl : Nat → Q2 → Option Q2
 | 0 => fun _ => none
 | N + 1 => Wx (Xl N) N
theorem Q0a {N} {v} {r} (h : Xl N v = some r) : pU 76 [.agg (Q2.cells v)] (.agg (Q2.cells r)) := by
 induction N generalizing v r with
 | zero => simp [Xl] at h
 | succ N ih => exact Gj (fun h => ih h) h
def V7 (N : Nat) (v : Q2) (most : Int) : Option (Int × Int) :=
 (X5 N v most).bind fun v1 =>
 cond (Qi .neq v1 0)
 (some (0, v1))
 ((Xl N v).bind fun v4 =>
 (Yv N v4).bind fun v6 =>
 (Y4 N v6).bind fun v8 =>
 (Yz N v6 v8).bind fun v10 =>
 some ((wrap .i64 (1 + v10)), 0))
theorem Gt {N} {v} {most} {r} (h : V7 N v most = some r) : pU 75 [.agg (Q2.cells v), .int .i64 most] (.tuple [.int .i64 r.1, .int .i64 r.2]) := by
 refine Q8 k75 ?_;unfold V7 at h;rw [cX] at h;refine cP h V3 (.cons q4 p1) fun v1 h => ?_;refine iL2 h fun h => ?_;refine cP h Q0a (.cons q4 .nil) fun v4 h => ?_;refine cP h Jl p1 fun v6 h => ?_;refine Z1 ?_;refine cD h Xj (.cons (Frz.agg' (.cons (.p _) (.cons (.p _) p5))) .nil) fun v8 h => ?_;refine cD h Xp (.cons (Frz.agg' (.cons (.p _) (.cons (.p _) p5))) p1) fun v10 h => ?_;obtain rfl := Yg h; exact u2
def Zo (N : Nat) (f : Yd) (l : Yq) : Nat → Int → Int → Option Int
 | 0, _, _ => none
 | n + 1, all44, s45 =>
  cond (Qi .lss s45 ((Q2.rows f.Values).length : Int))
  ((idx f.Values s45).bind fun y47 =>
  (V7 N y47 l.MaxDepth).bind fun v49 =>
  Zo N f l n (wrap .i64 (all44 + v49.1)) (wrap .i64 (s45 + 1)))
  (cond (Qi .gtr all44 l.MaxPacket)
  (some 4)
  (some 0))
def Zi (N : Nat) (f : Yd) (l : Yq) : Nat → Int → Option Int
 | 0, _ => none
 | n + 1, s25 =>
  cond (Qi .lss s25 ((Q2.rows f.Values).length : Int))
  ((idx f.Values s25).bind fun y27 =>
  (X5 N y27 l.MaxDepth).bind fun v29 =>
  cond (Qi .neq v29 0)
  (some v29)
  (Zi N f l n (wrap .i64 (s25 + 1))))
  (Zo N f l N (wrap .i64 (8 + (f.Ext.length : Int))) 0)
def Ug (N : Nat) (f : Yd) (l : Yq) : Option Int :=
 (Wj N l).bind fun v1 =>
 cond (!v1)
 (some 2)
 ((Wl N f.Type').bind fun v4 =>
 cond (!v4)
 (some 8)
 (cond (Qi .lss f.Channel 0)
 (some 2)
 (cond (Qi .gtr f.Channel 65535)
 (some 2)
 (cond (Qi .gtr (f.Ext.length : Int) 1012)
 (some 2)
 (cond (Qi .neq (((f.Ext.length : Int) : Int).tmod 4) 0)
 (some 2)
 (cond (Qi .gtr ((Q2.rows f.Values).length : Int) 1000)
 (some 4)
 (Zi N f l N 0)))))))
theorem Gf {N} {f} {l} {r} (h : Ug N f l = some r) : pU 28 [.agg (Yd.cells f), .agg (Yq.cells l)] (.int .i64 r) := by
 refine Q8 k28 ?_;unfold Ug at h;rw [cX] at h;refine cP h Jw (.cons q2 .nil) fun v1 h => ?_;refine iL h fun h => ?_;refine cP h G8 p1 fun v4 h => ?_;refine iL h fun h => ?_;refine iL h fun h => ?_;refine iL h fun h => ?_;refine iL h fun h => ?_;refine iL h fun h => ?_;refine iL h fun h => ?_;refine lpH (τ := Int) (fun s25 => (.any :: .any :: .ptr 0 0 :: .ptr 1 0 :: a16 (a16 (a8 (a2 (.p (.slice 4 (Q2.rows f.Values)) :: iI ((Q2.rows f.Values).length : Int) :: iI s25 :: a16 (a16 (a4 (.any :: []))))))) : List AV)) (fun n0 s25 => Zi N f l n0 s25) (0) h fun n0 s25 h => ?_
 first | rw [Zi] at h | simp only [Zi] at h
 rw [cX] at h;apply iU h <;> intro h
 ·refine Q2.xR h fun y27 h => ?_;refine cP h V3 (.cons q4 p1) fun v29 h => ?_;refine iL h fun h => ?_;show Exists _;exact ⟨(n0, (wrap .i64 (s25 + 1))), h, Lq _, (fun i => i), Ud⟩
 refine lpH (τ := Int × Int) (fun ⟨all44, s45⟩ => (a2 (.any :: .ptr 1 0 :: a4 (iI all44 :: a16 (a16 (a16 (a8 (.p (.slice 4 (Q2.rows f.Values)) :: iI ((Q2.rows f.Values).length : Int) :: iI s45 :: a16 (a2 ([])))))))) : List AV)) (fun n1 ⟨all44, s45⟩ => Zo N f l n1 all44 s45) ((wrap .i64 (8 + (f.Ext.length : Int))), 0) h fun n1 ⟨all44, s45⟩ h => ?_
 first | rw [Zo] at h | simp only [Zo] at h
 rw [cX] at h;apply iU h <;> intro h
 ·refine Q2.xR h fun y47 h => ?_;refine cP h Gt (.cons q4 p1) fun v49 h => ?_;show Exists _;exact ⟨(n1, (wrap .i64 (all44 + v49.1)), (wrap .i64 (s45 + 1))), h, Lq _, (fun i => i), Ud⟩
 exact iB h
end
end
end Go.Av
