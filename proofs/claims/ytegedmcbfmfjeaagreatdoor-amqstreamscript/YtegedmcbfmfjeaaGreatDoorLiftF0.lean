/- The law. Part of a proof of a given statement: for every input the law returns true and the arguments read as before; no condition beyond the given row. -/
import Derived.Test.YtegedmcbfmfjeaaGreatDoorLiftTy
import Derived.Test.YtegedmcbfmfjeaaGreatDoorChks
import Derived.Test.YtegedmcbfmfjeaaGreatDoorSeat1
import Derived.Test.YtegedmcbfmfjeaaGreatDoorLiftG
import Derived.Test.YtegedmcbfmfjeaaGreatDoorMans
namespace Go.Av
noncomputable section
open Go.Proofs
set_option maxRecDepth 100000
set_option maxHeartbeats 4000000
attribute [local irreducible] V9 Xn Q4u Q4y Qgk Qhv Q7o
section
def Vr (_N : Nat) (n_0 : Int) : Option (Bool) :=
 cond (Q7 .eql n_0 0)
 (some true)
 (some (Q7 .eql n_0 1))
theorem Q36 {N} {n_0} {r} (h : Vr N n_0 = some r) : Xe Tryz.prog G1 40 [.int .i64 n_0] (.bool r) := by
 refine Qc k40 ?_
 unfold Vr at h
 rw [cX] at h
 apply iU h <;> intro h
 ·cases h; exact (.p _)
 ·cases h; exact (.p _)
def Vp (_N : Nat) (l : Qe) : Option (Bool) :=
 cond (Q7 .geq l.MaxPacket 16)
 (cond (Q7 .leq l.MaxPacket 1048576)
 (cond (Q7 .geq l.MaxDepth 0)
 (some (Q7 .leq l.MaxDepth 32))
 (some false))
 (some false))
 (some false)
theorem Q32 {N} {l} {r} (h : Vp N l = some r) : Xe Tryz.prog G1 38 [.agg (Qe.cells l)] (.bool r) := by
 refine Qc k38 ?_
 unfold Vp at h
 rw [cX] at h
 apply iU h <;> intro h
 ·apply iU h <;> intro h
  ·apply iU h <;> intro h
   ·cases h; exact (.p _)
   ·cases h; exact (.p _)
  ·cases h; exact (.p _)
 ·cases h; exact (.p _)
def Jq (N : Nat) (s_0 : List UInt8) : Nat → Int → Int → Option (Int)
 | 0, _, _ => none
 | n + 1, n12, s13 =>
  cond (Q7 .lss s13 (((s_0.take s_0.length).drop ((IntKind.wrap .i64 ((s_0.length : Int) - 8)).toNat)).length : Int))
  ((idx ((s_0.take s_0.length).drop ((IntKind.wrap .i64 ((s_0.length : Int) - 8)).toNat)) s13).bind fun b15 =>
  Jq N s_0 n (orI .u64 (Jh .u64 n12 8) (IntKind.wrap .u64 (b15.toNat : Int))) (IntKind.wrap .i64 (s13 + 1)))
  (some n12)
def Vt (N : Nat) (s_0 : List UInt8) : Nat → Int → Int → Option (Int)
 | 0, _, _ => none
 | n + 1, n25, s26 =>
  cond (Q7 .lss s26 (s_0.length : Int))
  ((idx s_0 s26).bind fun b28 =>
  Vt N s_0 n (orI .u64 (Jh .u64 n25 8) (IntKind.wrap .u64 (b28.toNat : Int))) (IntKind.wrap .i64 (s26 + 1)))
  (some n25)
def Uu (N : Nat) (s_0 : List UInt8) : Option (Int) :=
 cond (Q7 .gtr (s_0.length : Int) 8)
 (cond (decide (0 ≤ (IntKind.wrap .i64 ((s_0.length : Int) - 8)))) (cond (Nat.ble (IntKind.wrap .i64 ((s_0.length : Int) - 8)).toNat s_0.length && Nat.ble s_0.length s_0.length) (Jq N s_0 N 0 0) none) none)
 (Vt N s_0 N 0 0)
theorem Q04 {N} {s_0} {r} (h : Uu N s_0 = some r) : Xe Tryz.prog G1 39 [.str s_0] (.int .u64 r) := by
 refine Qc k39 ?_
 unfold Uu at h
 rw [cX] at h
 apply iU h <;> intro h
 ·refine kU h fun h => ?_
  refine kU h fun h => ?_
  refine lpC (τ := Int × Int) (fun ⟨n12, s13⟩ => (.p (.str ((s_0.take s_0.length).drop ((IntKind.wrap .i64 ((s_0.length : Int) - 8)).toNat))) :: .any :: .any :: iW n12 :: a8 (a2 (.p (.int .i64 (((s_0.take s_0.length).drop ((IntKind.wrap .i64 ((s_0.length : Int) - 8)).toNat)).length : Int)) :: iI s13 :: a8 (a2 (.any :: [])))) : List AV)) (fun ⟨_, _⟩ => ([] : List AObj)) (fun n0 ⟨n12, s13⟩ => Jq N s_0 n0 n12 s13) (0, 0) h (fun i => i) ⟨(rE rfl <| rW <| rE rfl <| rX <| rW <| rE rfl <| rE rfl <| rX <| rW <| rA <| rN), (hN), rfl, rfl, (roN)⟩ fun n0 ⟨n12, s13⟩ h => ?_
  simp only [Jq] at h
  rw [cX] at h
  apply iU h <;> intro h
  ·refine xB h fun b15 h => ?_
   show Exists _
   exact ⟨(n0, (orI .u64 (Jh .u64 n12 8) (IntKind.wrap .u64 (b15.toNat : Int))), (IntKind.wrap .i64 (s13 + 1))), h, Nat.lt_succ_self _, (fun i => i), ⟨(rE rfl <| rW <| rE rfl <| rX <| rW <| rE rfl <| rE rfl <| rX <| rW <| rA <| rN), (hN), rfl, rfl, (roN)⟩⟩
  ·cases h; exact (.p _)
 ·refine lpC (τ := Int × Int) (fun ⟨n25, s26⟩ => (iS s_0 :: .any :: .any :: iW n25 :: a8 (a2 (iI (s_0.length : Int) :: iI s26 :: a8 (a2 (.any :: [])))) : List AV)) (fun ⟨_, _⟩ => ([] : List AObj)) (fun n1 ⟨n25, s26⟩ => Vt N s_0 n1 n25 s26) (0, 0) h (fun i => i) ⟨(rE rfl <| rW <| rE rfl <| rX <| rW <| rE rfl <| rE rfl <| rX <| rW <| rA <| rN), (hN), rfl, rfl, (roN)⟩ fun n1 ⟨n25, s26⟩ h => ?_
  simp only [Vt] at h
  rw [cX] at h
  apply iU h <;> intro h
  ·refine xB h fun b28 h => ?_
   show Exists _
   exact ⟨(n1, (orI .u64 (Jh .u64 n25 8) (IntKind.wrap .u64 (b28.toNat : Int))), (IntKind.wrap .i64 (s26 + 1))), h, Nat.lt_succ_self _, (fun i => i), ⟨(rE rfl <| rW <| rE rfl <| rX <| rW <| rE rfl <| rE rfl <| rX <| rW <| rA <| rN), (hN), rfl, rfl, (roN)⟩⟩
  ·cases h; exact (.p _)
def X2 (N : Nat) (s_0 : List UInt8) (l : Qe) : Option (Int × Int) :=
 (Vp N l).bind fun v1 =>
 cond (!v1)
 (some (0, 2))
 (cond (Q7 .lss (s_0.length : Int) 8)
 (some (0, 3))
 ((idx s_0 0).bind fun b5 =>
 (idx s_0 1).bind fun b7 =>
 (idx s_0 2).bind fun b9 =>
 (idx s_0 3).bind fun b11 =>
 (idx s_0 4).bind fun b13 =>
 (idx s_0 5).bind fun b15 =>
 (idx s_0 6).bind fun b17 =>
 (idx s_0 7).bind fun b19 =>
 (Uu N [UInt8.ofNat (b5.toNat : Int).toNat, UInt8.ofNat (b7.toNat : Int).toNat, UInt8.ofNat (b9.toNat : Int).toNat, UInt8.ofNat (b11.toNat : Int).toNat]).bind fun v21 =>
 cond (Q7 .gtr v21 (IntKind.wrap .u64 l.MaxPacket))
 (some (0, 4))
 (cond (Q7 .lss v21 8)
 (some (0, 5))
 (cond (Q7 .lss (b13.toNat : Int) 2)
 (some (0, 5))
 (cond (Q7 .gtr (IntKind.wrap .u64 ((IntKind.wrap .u64 (b13.toNat : Int)) * 4)) v21)
 (some (0, 5))
 ((Vr N (IntKind.wrap .i64 (b15.toNat : Int))).bind fun v27 =>
 cond (!v27)
 (some (0, 8))
 (some ((IntKind.wrap .i64 v21), 0))))))))
theorem V7 {N} {s_0} {l} {r} (h : X2 N s_0 l = some r) : Xe Tryz.prog G1 26 [.str s_0, .agg (Qe.cells l)] (.tuple [.int .i64 r.1, .int .i64 r.2]) := by
 refine Qc k26 ?_
 unfold X2 at h
 rw [cX] at h
 refine cP h Q32 (.cons q2 .nil) fun v1 h => ?_
 apply iU h <;> intro h
 ·obtain rfl := Qa h; exact u2
 ·apply iU h <;> intro h
  ·obtain rfl := Qa h; exact u2
  ·obtain ⟨b5, hy6, h⟩ := Q0v h
   obtain ⟨b7, hy8, h⟩ := Q0v h
   obtain ⟨b9, hy10, h⟩ := Q0v h
   obtain ⟨b11, hy12, h⟩ := Q0v h
   obtain ⟨b13, hy14, h⟩ := Q0v h
   obtain ⟨b15, hy16, h⟩ := Q0v h
   obtain ⟨b17, hy18, h⟩ := Q0v h
   obtain ⟨b19, hy20, h⟩ := Q0v h
   refine Qpr (l := [b5, b7, b9, b11, b13, b15, b17, b19]) (Qmh (Qmh (Qmh (Qmh (Qmh (Qmh (Qmh (Qmh Qrw hy6) hy8) hy10) hy12) hy14) hy16) hy18) hy20) ?_
   refine Qof ?_
   refine cP h Q04 p1 fun v21 h => ?_
   apply iU h <;> intro h
   ·obtain rfl := Qa h; exact u2
   ·apply iU h <;> intro h
    ·obtain rfl := Qa h; exact u2
    ·apply iU h <;> intro h
     ·obtain rfl := Qa h; exact u2
     ·apply iU h <;> intro h
      ·obtain rfl := Qa h; exact u2
      ·refine cP h Q36 p1 fun v27 h => ?_
       apply iU h <;> intro h
       ·obtain rfl := Qa h; exact u2
       ·obtain rfl := Qa h; exact u2
def Xm (_N : Nat) (most : Int) : Option (Bool) :=
 cond (Q7 .geq most 0)
 (some (Q7 .leq most 32))
 (some false)
theorem J5 {N} {most} {r} (h : Xm N most = some r) : Xe Tryz.prog G1 70 [.int .i64 most] (.bool r) := by
 refine Qc k70 ?_
 unfold Xm at h
 rw [cX] at h
 apply iU h <;> intro h
 ·cases h; exact (.p _)
 ·cases h; exact (.p _)
def Vs (_N : Nat) (kind : Int) : Option (Int × Bool) :=
 cond (Q7 .eql kind 2)
 (some (1, false))
 (cond (Q7 .eql kind 3)
 (some (8, false))
 (cond (Q7 .eql kind 4)
 (some (16, false))
 (cond (Q7 .eql kind 5)
 (some (32, false))
 (cond (Q7 .eql kind 11)
 (some (32, false))
 (cond (Q7 .eql kind 13)
 (some (32, false))
 (cond (Q7 .eql kind 16)
 (some (32, false))
 (cond (Q7 .eql kind 6)
 (some (64, false))
 (cond (Q7 .eql kind 12)
 (some (64, false))
 (cond (Q7 .eql kind 14)
 (some (64, false))
 (cond (Q7 .eql kind 7)
 (some (8, true))
 (cond (Q7 .eql kind 8)
 (some (16, true))
 (cond (Q7 .eql kind 9)
 (some (32, true))
 (cond (Q7 .eql kind 10)
 (some (64, true))
 (cond (Q7 .eql kind 17)
 (some (64, true))
 (some (0, false))))))))))))))))
theorem Q0b {N} {kind} {r} (h : Vs N kind = some r) : Xe Tryz.prog G1 107 [.int .i64 kind] (.tuple [.int .i64 r.1, .bool r.2]) := by
 refine Qc Qrx ?_
 unfold Vs at h
 rw [cX] at h
 apply iU h <;> intro h
 ·obtain rfl := Qa h; exact u2
 ·apply iU h <;> intro h
  ·obtain rfl := Qa h; exact u2
  ·apply iU h <;> intro h
   ·obtain rfl := Qa h; exact u2
   ·refine ifO h (fun hc4 h => ?_) (fun hc4 h => ?_)
    ·refine ifT hc4 ?_
     obtain rfl := Qa h; exact u2
    ·refine ifO h (fun hc5 h => ?_) (fun hc5 h => ?_)
     ·refine ifT hc5 ?_
      obtain rfl := Qa h; exact u2
     ·refine ifO h (fun hc6 h => ?_) (fun hc6 h => ?_)
      ·refine ifT hc6 ?_
       obtain rfl := Qa h; exact u2
      ·apply iU h <;> intro h
       ·obtain rfl := Qa h; exact u2
       ·refine ifO h (fun hc8 h => ?_) (fun hc8 h => ?_)
        ·refine ifT hc8 ?_
         obtain rfl := Qa h; exact u2
        ·refine ifO h (fun hc9 h => ?_) (fun hc9 h => ?_)
         ·refine ifT hc9 ?_
          obtain rfl := Qa h; exact u2
         ·apply iU h <;> intro h
          ·obtain rfl := Qa h; exact u2
          ·apply iU h <;> intro h
           ·obtain rfl := Qa h; exact u2
           ·apply iU h <;> intro h
            ·obtain rfl := Qa h; exact u2
            ·apply iU h <;> intro h
             ·obtain rfl := Qa h; exact u2
             ·refine ifO h (fun hc14 h => ?_) (fun hc14 h => ?_)
              ·refine ifT hc14 ?_
               obtain rfl := Qa h; exact u2
              ·apply iU h <;> intro h
               ·obtain rfl := Qa h; exact u2
               ·obtain rfl := Qa h; exact u2
def V4 (_N : Nat) (n_0 : Int) (bits : Int) (signed : Bool) : Option (Bool) :=
 cond signed
 (cond (decide (0 ≤ (IntKind.wrap .i64 (bits - 1)))) (cond (Q7 .geq (IntKind.wrap .i64 n_0) (Jh .i64 (-1) (IntKind.wrap .i64 (bits - 1))))
 (some (Q7 .leq (IntKind.wrap .i64 n_0) (IntKind.wrap .i64 (0 - (IntKind.wrap .i64 ((Jh .i64 (-1) (IntKind.wrap .i64 (bits - 1))) + 1))))))
 (some false)) none)
 (cond (Q7 .eql bits 64)
 (some true)
 (cond (decide (0 ≤ bits)) (some (Q7 .eql (Q6a .u64 n_0 bits) 0)) none))
theorem Q2b {N} {n_0} {bits} {signed} {r} (h : V4 N n_0 bits signed = some r) : Xe Tryz.prog G1 108 [.int .u64 n_0, .int .i64 bits, .bool signed] (.bool r) := by
 refine Qc Qs8 ?_
 unfold V4 at h
 rw [cX] at h
 apply iU h <;> intro h
 ·refine kU h fun h => ?_
  apply iU h <;> intro h
  ·cases h; exact (.p _)
  ·cases h; exact (.p _)
 ·apply iU h <;> intro h
  ·cases h; exact (.p _)
  ·refine kU h fun h => ?_
   cases h; exact (.p _)
def W9 (_N : Nat) (r_0 : Int) : Option (Bool) :=
 cond (Q7 .leq 0 r_0)
 (cond (Q7 .lss r_0 55296)
 (some true)
 (cond (Q7 .lss 57343 r_0)
 (cond (Q7 .leq r_0 1114111)
 (some true)
 (some false))
 (some false)))
 (cond (Q7 .lss 57343 r_0)
 (cond (Q7 .leq r_0 1114111)
 (some true)
 (some false))
 (some false))
theorem Gd {N} {r_0} {r} (h : W9 N r_0 = some r) : Xe Tryz.prog G1 115 [.int .i32 r_0] (.bool r) := by
 refine Qc Qrt ?_
 unfold W9 at h
 rw [cX] at h
 apply iU h <;> intro h
 ·apply iU h <;> intro h
  ·cases h; exact (.p _)
  ·apply iU h <;> intro h
   ·apply iU h <;> intro h
    ·cases h; exact (.p _)
    ·cases h; exact (.p _)
   ·cases h; exact (.p _)
 ·apply iU h <;> intro h
  ·apply iU h <;> intro h
   ·cases h; exact (.p _)
   ·cases h; exact (.p _)
  ·cases h; exact (.p _)
def Wz (N : Nat) (n_0 : Int) : Option (Bool) :=
 cond (Q7 .leq n_0 1114111)
 ((W9 N (IntKind.wrap .i32 n_0)).bind fun v2 =>
 some v2)
 (some false)
theorem Q1p {N} {n_0} {r} (h : Wz N n_0 = some r) : Xe Tryz.prog G1 109 [.int .u64 n_0] (.bool r) := by
 refine Qc Qs7 ?_
 unfold Wz at h
 rw [cX] at h
 apply iU h <;> intro h
 ·refine cP h Gd p1 fun v2 h => ?_
  cases h; exact (.p _)
 ·cases h; exact (.p _)
def Wr (_N : Nat) (kind : Int) : Option (Bool) :=
 cond (Q7 .eql kind 15)
 (some true)
 (cond (Q7 .eql kind 18)
 (some true)
 (cond (Q7 .eql kind 19)
 (some true)
 (cond (Q7 .eql kind 20)
 (some true)
 (cond (Q7 .eql kind 21)
 (some true)
 (some false)))))
theorem G3 {N} {kind} {r} (h : Wr N kind = some r) : Xe Tryz.prog G1 110 [.int .i64 kind] (.bool r) := by
 refine Qc Qru ?_
 unfold Wr at h
 rw [cX] at h
 refine ifO h (fun hc1 h => ?_) (fun hc1 h => ?_)
 ·refine ifT hc1 ?_
  cases h; exact (.p _)
 ·refine ifO h (fun hc2 h => ?_) (fun hc2 h => ?_)
  ·refine ifT hc2 ?_
   cases h; exact (.p _)
  ·refine ifO h (fun hc3 h => ?_) (fun hc3 h => ?_)
   ·refine ifT hc3 ?_
    cases h; exact (.p _)
   ·refine ifO h (fun hc4 h => ?_) (fun hc4 h => ?_)
    ·refine ifT hc4 ?_
     cases h; exact (.p _)
    ·apply iU h <;> intro h
     ·cases h; exact (.p _)
     ·cases h; exact (.p _)
def Qt (_N : Nat) (s_0 : List UInt8) : Option (Int) :=
 (idx s_0 0).bind fun b1 =>
 (idx s_0 1).bind fun b3 =>
 (idx s_0 2).bind fun b5 =>
 (idx s_0 3).bind fun b7 =>
 (idx s_0 4).bind fun b9 =>
 (idx s_0 5).bind fun b11 =>
 (idx s_0 6).bind fun b13 =>
 (idx s_0 7).bind fun b15 =>
 some (orI .u64 (orI .u64 (orI .u64 (orI .u64 (orI .u64 (orI .u64 (orI .u64 (IntKind.wrap .u64 (b1.toNat : Int)) (Jh .u64 (IntKind.wrap .u64 (b3.toNat : Int)) 8)) (Jh .u64 (IntKind.wrap .u64 (b5.toNat : Int)) 16)) (Jh .u64 (IntKind.wrap .u64 (b7.toNat : Int)) 24)) (Jh .u64 (IntKind.wrap .u64 (b9.toNat : Int)) 32)) (Jh .u64 (IntKind.wrap .u64 (b11.toNat : Int)) 40)) (Jh .u64 (IntKind.wrap .u64 (b13.toNat : Int)) 48)) (Jh .u64 (IntKind.wrap .u64 (b15.toNat : Int)) 56))
theorem Za {N} {s_0} {r} (h : Qt N s_0 = some r) : Xe Tryz.prog G1 128 [.str s_0] (.int .u64 r) := by
 refine Qc Qs6 ?_
 unfold Qt at h
 refine Qb ?_
 refine xB h fun b1 h => ?_
 refine xB h fun b3 h => ?_
 refine xB h fun b5 h => ?_
 refine xB h fun b7 h => ?_
 refine xB h fun b9 h => ?_
 refine xB h fun b11 h => ?_
 refine xB h fun b13 h => ?_
 refine xB h fun b15 h => ?_
 cases h; exact (.p _)
def Zr (N : Nat) (k0 : (List UInt8) → Option (Bool)) : Nat → (List UInt8) → Option (Bool)
 | 0, _ => none
 | n + 1, s272 =>
  cond (Q7 .gtr (s272.length : Int) 32)
  ((Qt N s272).bind fun v274 =>
  cond (Nat.ble 8 s272.length && Nat.ble s272.length s272.length) ((Qt N ((s272.take s272.length).drop 8)).bind fun v277 =>
  cond (Nat.ble 16 s272.length && Nat.ble s272.length s272.length) ((Qt N ((s272.take s272.length).drop 16)).bind fun v280 =>
  cond (Nat.ble 24 s272.length && Nat.ble s272.length s272.length) ((Qt N ((s272.take s272.length).drop 24)).bind fun v283 =>
  cond (Q7 .eql (Q3l .u64 (orI .u64 (orI .u64 v274 v277) (orI .u64 v280 v283)) 9259542123273814144) 0)
  (cond (Nat.ble 32 s272.length && Nat.ble s272.length s272.length) (Zr N k0 n ((s272.take s272.length).drop 32)) none)
  (k0 s272)) none) none) none)
  (k0 s272)
def Q3 (N : Nat) : Nat → (List UInt8) → Option (Bool)
 | 0, _ => none
 | n + 1, s224 =>
  cond (Q7 .gtr (s224.length : Int) 0)
  ((idx s224 0).bind fun b226 =>
  cond (Q7 .lss (b226.toNat : Int) 128)
  (cond (Nat.ble 1 s224.length && Nat.ble s224.length s224.length) (cond (Q7 .gtr (((s224.take s224.length).drop 1).length : Int) 8)
  ((Qt N ((s224.take s224.length).drop 1)).bind fun v231 =>
  cond (Q7 .eql (Q3l .u64 v231 9259542123273814144) 0)
  (cond (Nat.ble 8 (((s224.take s224.length).drop 1).length) && Nat.ble (((s224.take s224.length).drop 1).length) ((s224.take s224.length).drop 1).length) (cond (Q7 .gtr (((((s224.take s224.length).drop 1).take (((s224.take s224.length).drop 1).length)).drop 8).length : Int) 16)
  ((Qt N ((((s224.take s224.length).drop 1).take (((s224.take s224.length).drop 1).length)).drop 8)).bind fun v236 =>
  cond (Nat.ble 8 (((((s224.take s224.length).drop 1).take (((s224.take s224.length).drop 1).length)).drop 8).length) && Nat.ble (((((s224.take s224.length).drop 1).take (((s224.take s224.length).drop 1).length)).drop 8).length) ((((s224.take s224.length).drop 1).take (((s224.take s224.length).drop 1).length)).drop 8).length) ((Qt N ((((((s224.take s224.length).drop 1).take (((s224.take s224.length).drop 1).length)).drop 8).take (((((s224.take s224.length).drop 1).take (((s224.take s224.length).drop 1).length)).drop 8).length)).drop 8)).bind fun v239 =>
  cond (Q7 .eql (Q3l .u64 (orI .u64 v236 v239) 9259542123273814144) 0)
  (cond (Nat.ble 16 (((((s224.take s224.length).drop 1).take (((s224.take s224.length).drop 1).length)).drop 8).length) && Nat.ble (((((s224.take s224.length).drop 1).take (((s224.take s224.length).drop 1).length)).drop 8).length) ((((s224.take s224.length).drop 1).take (((s224.take s224.length).drop 1).length)).drop 8).length) (Zr N (Q3 N n) N ((((((s224.take s224.length).drop 1).take (((s224.take s224.length).drop 1).length)).drop 8).take (((((s224.take s224.length).drop 1).take (((s224.take s224.length).drop 1).length)).drop 8).length)).drop 16)) none)
  (Q3 N n ((((s224.take s224.length).drop 1).take (((s224.take s224.length).drop 1).length)).drop 8))) none)
  (Q3 N n ((((s224.take s224.length).drop 1).take (((s224.take s224.length).drop 1).length)).drop 8))) none)
  (Q3 N n ((s224.take s224.length).drop 1)))
  (Q3 N n ((s224.take s224.length).drop 1))) none)
  ((idx gtab0 (b226.toNat : Int)).bind fun y287 =>
  (idx gtab1 (Q6a .u8 y287 4)).bind fun y289 =>
  cond (Q7 .eql (IntKind.wrap .i64 (Q3l .u8 y287 7)) 2)
  (cond (Q7 .lss (s224.length : Int) 2)
  (some false)
  ((idx s224 1).bind fun b293 =>
  cond (Q7 .lss (b293.toNat : Int) y289.1)
  (some false)
  ((idx s224 1).bind fun b296 =>
  cond (Q7 .lss y289.2 (b296.toNat : Int))
  (some false)
  (cond (Nat.ble 2 s224.length && Nat.ble s224.length s224.length) (Q3 N n ((s224.take s224.length).drop 2)) none))))
  (cond (Q7 .eql (IntKind.wrap .i64 (Q3l .u8 y287 7)) 3)
  (cond (Q7 .lss (s224.length : Int) 3)
  (some false)
  ((idx s224 1).bind fun b302 =>
  cond (Q7 .lss (b302.toNat : Int) y289.1)
  (some false)
  ((idx s224 1).bind fun b305 =>
  cond (Q7 .lss y289.2 (b305.toNat : Int))
  (some false)
  ((idx s224 2).bind fun b308 =>
  cond (Q7 .lss (b308.toNat : Int) 128)
  (some false)
  ((idx s224 2).bind fun b311 =>
  cond (Q7 .lss 191 (b311.toNat : Int))
  (some false)
  (cond (Nat.ble 3 s224.length && Nat.ble s224.length s224.length) (Q3 N n ((s224.take s224.length).drop 3)) none))))))
  (cond (Q7 .eql (IntKind.wrap .i64 (Q3l .u8 y287 7)) 4)
  (cond (Q7 .lss (s224.length : Int) 4)
  (some false)
  ((idx s224 1).bind fun b317 =>
  cond (Q7 .lss (b317.toNat : Int) y289.1)
  (some false)
  ((idx s224 1).bind fun b320 =>
  cond (Q7 .lss y289.2 (b320.toNat : Int))
  (some false)
  ((idx s224 2).bind fun b323 =>
  cond (Q7 .lss (b323.toNat : Int) 128)
  (some false)
  ((idx s224 2).bind fun b326 =>
  cond (Q7 .lss 191 (b326.toNat : Int))
  (some false)
  ((idx s224 3).bind fun b329 =>
  cond (Q7 .lss (b329.toNat : Int) 128)
  (some false)
  ((idx s224 3).bind fun b332 =>
  cond (Q7 .lss 191 (b332.toNat : Int))
  (some false)
  (cond (Nat.ble 4 s224.length && Nat.ble s224.length s224.length) (Q3 N n ((s224.take s224.length).drop 4)) none))))))))
  (some false)))))
  (some true)
def Xo (N : Nat) (s_0 : List UInt8) : Option (Bool) :=
 Q3 N N s_0
theorem Jw {N} {s_0} {r} (h : Xo N s_0 = some r) : Xe Tryz.prog G1 116 [.str s_0] (.bool r) := by
 refine Qc Qsn ?_
 unfold Xo at h
 refine lpC (τ := (List UInt8)) (fun s224 => (iS s224 :: a16 (a16 (a16 (a16 (a16 (a16 (a16 (a16 (a16 (a16 (a8 ([]))))))))))) : List AV)) (fun _ => ([] : List AObj)) (fun n0 s224 => Q3 N n0 s224) (s_0) h (fun i => i) ⟨(rE rfl <| rX <| rX <| rX <| rX <| rX <| rX <| rX <| rX <| rX <| rX <| rX <| rX <| rX <| rX <| rX <| rX <| rX <| rX <| rX <| rX <| rX <| rN), (hN), rfl, rfl, (roN)⟩ fun n0 s224 h => ?_
 simp only [Q3] at h
 rw [cX] at h
 apply iU h <;> intro h
 ·refine xB h fun b226 h => ?_
  apply iU h <;> intro h
  ·refine kU h fun h => ?_
   apply iU h <;> intro h
   ·refine cP h Za p1 fun v231 h => ?_
    apply iU h <;> intro h
    ·refine kU h fun h => ?_
     refine Qb ?_
     apply iU h <;> intro h
     ·refine cD h Za p1 fun v236 h => ?_
      refine kU h fun h => ?_
      refine cD h Za p1 fun v239 h => ?_
      apply iU h <;> intro h
      ·refine kU h fun h => ?_
       refine lpC (τ := (List UInt8)) (fun s272 => (iS s272 :: a16 (a16 (a16 (a16 (a16 (a16 (a16 (a16 (a16 (a16 (a8 ([]))))))))))) : List AV)) (fun _ => ([] : List AObj)) (fun n1 s272 => Zr N (Q3 N n0) n1 s272) (((((((s224.take s224.length).drop 1).take (((s224.take s224.length).drop 1).length)).drop 8).take (((((s224.take s224.length).drop 1).take (((s224.take s224.length).drop 1).length)).drop 8).length)).drop 16)) h (fun i => i) ⟨(rE rfl <| rX <| rX <| rX <| rX <| rX <| rX <| rX <| rX <| rX <| rX <| rX <| rX <| rX <| rX <| rX <| rX <| rX <| rX <| rX <| rX <| rX <| rN), (hN), rfl, rfl, (roN)⟩ fun n1 s272 h => ?_
       simp only [Zr] at h
       rw [cX] at h
       refine Qb ?_
       apply iU h <;> intro h
       ·refine cD h Za p1 fun v274 h => ?_
        refine kU h fun h => ?_
        refine cD h Za p1 fun v277 h => ?_
        refine kU h fun h => ?_
        refine cD h Za p1 fun v280 h => ?_
        refine kU h fun h => ?_
        refine cD h Za p1 fun v283 h => ?_
        apply iU h <;> intro h
        ·refine kU h fun h => ?_
         show Exists _
         exact ⟨(n1, ((s272.take s272.length).drop 32)), h, Nat.lt_succ_self _, (fun i => i), ⟨(rE rfl <| rX <| rX <| rX <| rX <| rX <| rX <| rX <| rX <| rX <| rX <| rX <| rX <| rX <| rX <| rX <| rX <| rX <| rX <| rX <| rX <| rX <| rN), (hN), rfl, rfl, (roN)⟩⟩
        ·show Exists _
         exact ⟨(n0, s272), h, Nat.lt_succ_self _, (fun i => i), ⟨(rE rfl <| rX <| rX <| rX <| rX <| rX <| rX <| rX <| rX <| rX <| rX <| rX <| rX <| rX <| rX <| rX <| rX <| rX <| rX <| rX <| rX <| rX <| rN), (hN), rfl, rfl, (roN)⟩⟩
       ·show Exists _
        exact ⟨(n0, s272), h, Nat.lt_succ_self _, (fun i => i), ⟨(rE rfl <| rX <| rX <| rX <| rX <| rX <| rX <| rX <| rX <| rX <| rX <| rX <| rX <| rX <| rX <| rX <| rX <| rX <| rX <| rX <| rX <| rX <| rN), (hN), rfl, rfl, (roN)⟩⟩
      ·show Exists _
       exact ⟨(n0, ((((s224.take s224.length).drop 1).take (((s224.take s224.length).drop 1).length)).drop 8)), h, Nat.lt_succ_self _, (fun i => i), ⟨(rE rfl <| rX <| rX <| rX <| rX <| rX <| rX <| rX <| rX <| rX <| rX <| rX <| rX <| rX <| rX <| rX <| rX <| rX <| rX <| rX <| rX <| rX <| rN), (hN), rfl, rfl, (roN)⟩⟩
     ·show Exists _
      exact ⟨(n0, ((((s224.take s224.length).drop 1).take (((s224.take s224.length).drop 1).length)).drop 8)), h, Nat.lt_succ_self _, (fun i => i), ⟨(rE rfl <| rX <| rX <| rX <| rX <| rX <| rX <| rX <| rX <| rX <| rX <| rX <| rX <| rX <| rX <| rX <| rX <| rX <| rX <| rX <| rX <| rX <| rN), (hN), rfl, rfl, (roN)⟩⟩
    ·show Exists _
     exact ⟨(n0, ((s224.take s224.length).drop 1)), h, Nat.lt_succ_self _, (fun i => i), ⟨(rE rfl <| rX <| rX <| rX <| rX <| rX <| rX <| rX <| rX <| rX <| rX <| rX <| rX <| rX <| rX <| rX <| rX <| rX <| rX <| rX <| rX <| rX <| rN), (hN), rfl, rfl, (roN)⟩⟩
   ·show Exists _
    exact ⟨(n0, ((s224.take s224.length).drop 1)), h, Nat.lt_succ_self _, (fun i => i), ⟨(rE rfl <| rX <| rX <| rX <| rX <| rX <| rX <| rX <| rX <| rX <| rX <| rX <| rX <| rX <| rX <| rX <| rX <| rX <| rX <| rX <| rX <| rX <| rN), (hN), rfl, rfl, (roN)⟩⟩
  ·obtain ⟨y287, hy288, h⟩ := Q0v h
   refine Uw (Qe1 hy288 Qij) ?_
   refine Qhj (c := (cI .u8)) (e := 1) (fun _ => rfl) Ql0 hy288 (off := 0) (by decide) (by first | omega | (simp only [Q3l, orI, Qqy, Qde, Jh, Q6a]; omega)) ?_
   obtain ⟨y289, hy290, h⟩ := Q0v h
   refine Uw (Qe1 hy290 Qha) ?_
   refine Qhj (c := cUU) (e := 2) (fun _ => rfl) Qlg hy290 (off := 0) (by decide) (by first | omega | (simp only [Q3l, orI, Qqy, Qde, Jh, Q6a]; omega)) ?_
   apply iU h <;> intro h
   ·refine Qb ?_
    apply iU h <;> intro h
    ·cases h; exact (.p _)
    ·refine xB h fun b293 h => ?_
     apply iU h <;> intro h
     ·cases h; exact (.p _)
     ·refine xB h fun b296 h => ?_
      apply iU h <;> intro h
      ·cases h; exact (.p _)
      ·refine kU h fun h => ?_
       show Exists _
       exact ⟨(n0, ((s224.take s224.length).drop 2)), h, Nat.lt_succ_self _, (fun i => i), ⟨(rE rfl <| rX <| rX <| rX <| rX <| rX <| rX <| rX <| rX <| rX <| rX <| rX <| rX <| rX <| rX <| rX <| rX <| rX <| rX <| rX <| rX <| rX <| rN), (hN), rfl, rfl, (roN)⟩⟩
   ·apply iU h <;> intro h
    ·refine Qb ?_
     apply iU h <;> intro h
     ·cases h; exact (.p _)
     ·refine xB h fun b302 h => ?_
      apply iU h <;> intro h
      ·cases h; exact (.p _)
      ·refine xB h fun b305 h => ?_
       apply iU h <;> intro h
       ·cases h; exact (.p _)
       ·refine xB h fun b308 h => ?_
        apply iU h <;> intro h
        ·cases h; exact (.p _)
        ·refine xB h fun b311 h => ?_
         apply iU h <;> intro h
         ·cases h; exact (.p _)
         ·refine kU h fun h => ?_
          show Exists _
          exact ⟨(n0, ((s224.take s224.length).drop 3)), h, Nat.lt_succ_self _, (fun i => i), ⟨(rE rfl <| rX <| rX <| rX <| rX <| rX <| rX <| rX <| rX <| rX <| rX <| rX <| rX <| rX <| rX <| rX <| rX <| rX <| rX <| rX <| rX <| rX <| rN), (hN), rfl, rfl, (roN)⟩⟩
    ·apply iU h <;> intro h
     ·refine Qb ?_
      apply iU h <;> intro h
      ·cases h; exact (.p _)
      ·refine xB h fun b317 h => ?_
       apply iU h <;> intro h
       ·cases h; exact (.p _)
       ·refine xB h fun b320 h => ?_
        apply iU h <;> intro h
        ·cases h; exact (.p _)
        ·refine xB h fun b323 h => ?_
         apply iU h <;> intro h
         ·cases h; exact (.p _)
         ·refine xB h fun b326 h => ?_
          apply iU h <;> intro h
          ·cases h; exact (.p _)
          ·refine xB h fun b329 h => ?_
           apply iU h <;> intro h
           ·cases h; exact (.p _)
           ·refine xB h fun b332 h => ?_
            apply iU h <;> intro h
            ·cases h; exact (.p _)
            ·refine kU h fun h => ?_
             show Exists _
             exact ⟨(n0, ((s224.take s224.length).drop 4)), h, Nat.lt_succ_self _, (fun i => i), ⟨(rE rfl <| rX <| rX <| rX <| rX <| rX <| rX <| rX <| rX <| rX <| rX <| rX <| rX <| rX <| rX <| rX <| rX <| rX <| rX <| rX <| rX <| rX <| rN), (hN), rfl, rfl, (roN)⟩⟩
     ·cases h; exact (.p _)
 ·cases h; exact (.p _)
def Wq (N : Nat) (v : Q0) : Nat → Int → Option (Int)
 | 0, _ => none
 | n + 1, s15 =>
  cond (Q7 .lss s15 (v.Text.length : Int))
  ((idx v.Text s15).bind fun b17 =>
  cond (Q7 .geq (b17.toNat : Int) 128)
  (some 6)
  (Wq N v n (IntKind.wrap .i64 (s15 + 1))))
  (some 0)
def Xg (N : Nat) (v : Q0) : Option (Int) :=
 cond (Q7 .eql v.Kind 20)
 ((Xo N v.Text).bind fun v2 =>
 cond (!v2)
 (some 6)
 (some 0))
 (cond (Q7 .eql v.Kind 21)
 (Wq N v N 0)
 (some 0))
theorem Wp {N} {v} {r} (h : Xg N v = some r) : Xe Tryz.prog G1 111 [.agg (Q0.cells v)] (.int .i64 r) := by
 refine Qc Qro ?_
 unfold Xg at h
 rw [cX] at h
 apply iU h <;> intro h
 ·refine cP h Jw p1 fun v2 h => ?_
  apply iU h <;> intro h
  ·cases h; exact (.p _)
  ·cases h; exact (.p _)
 ·apply iU h <;> intro h
  ·refine lpC (τ := Int) (fun s15 => (.any :: .ptr 0 0 :: a8 (a4 (a2 (iI (v.Text.length : Int) :: iI s15 :: a8 ([])))) : List AV)) (fun _ => (.cells (iI v.Kind :: iW v.N' :: iS v.Text :: .p (.slice 4 (Q0.rows v.Items)) :: []) :: [] : List AObj)) (fun n0 s15 => Wq N v n0 s15) (0) h (fun i => i) ⟨(rA <| rE rfl <| rX <| rV <| rW <| rE rfl <| rE rfl <| rX <| rN), (hE rfl <| hN), rfl, rfl, (roE rfl <| roN)⟩ fun n0 s15 h => ?_
   simp only [Wq] at h
   rw [cX] at h
   apply iU h <;> intro h
   ·refine xB h fun b17 h => ?_
    apply iU h <;> intro h
    ·cases h; exact (.p _)
    ·show Exists _
     exact ⟨(n0, (IntKind.wrap .i64 (s15 + 1))), h, Nat.lt_succ_self _, (fun i => i), ⟨(rA <| rE rfl <| rX <| rV <| rW <| rE rfl <| rE rfl <| rX <| rN), (hE rfl <| hN), rfl, rfl, (roE rfl <| roN)⟩⟩
   ·cases h; exact (.p _)
  ·cases h; exact (.p _)
def W4 (N : Nat) (v : Q0) : Option (Int) :=
 cond (Q7 .lss v.Kind 1)
 (some 8)
 (cond (Q7 .gtr v.Kind 21)
 (some 8)
 ((Vs N v.Kind).bind fun v3 =>
 (V4 N v.N' v3.1 v3.2).bind fun v5 =>
 cond (!v5)
 (some 2)
 (cond (Q7 .eql v.Kind 16)
 ((Wz N v.N').bind fun v9 =>
 cond (!v9)
 (some 2)
 (cond (Q7 .neq ((Q0.rows v.Items).length : Int) 0)
 (some 2)
 ((Wr N v.Kind).bind fun v13 =>
 cond (!v13)
 (cond (Q1q .neq v.Text [])
 (some 2)
 (some 0))
 (cond (Q7 .eql v.Kind 15)
 (cond (Q7 .neq (v.Text.length : Int) 16)
 (some 2)
 (cond (Q7 .gtr (v.Text.length : Int) 1048576)
 (some 4)
 ((Xg N v).bind fun v20 =>
 some v20)))
 (cond (Q7 .eql v.Kind 18)
 (cond (Q7 .neq (v.Text.length : Int) 16)
 (some 2)
 (cond (Q7 .gtr (v.Text.length : Int) 1048576)
 (some 4)
 ((Xg N v).bind fun v25 =>
 some v25)))
 (cond (Q7 .gtr (v.Text.length : Int) 1048576)
 (some 4)
 ((Xg N v).bind fun v28 =>
 some v28)))))))
 (cond (Q7 .neq ((Q0.rows v.Items).length : Int) 0)
 (some 2)
 ((Wr N v.Kind).bind fun v31 =>
 cond (!v31)
 (cond (Q1q .neq v.Text [])
 (some 2)
 (some 0))
 (cond (Q7 .eql v.Kind 15)
 (cond (Q7 .neq (v.Text.length : Int) 16)
 (some 2)
 (cond (Q7 .gtr (v.Text.length : Int) 1048576)
 (some 4)
 ((Xg N v).bind fun v38 =>
 some v38)))
 (cond (Q7 .eql v.Kind 18)
 (cond (Q7 .neq (v.Text.length : Int) 16)
 (some 2)
 (cond (Q7 .gtr (v.Text.length : Int) 1048576)
 (some 4)
 ((Xg N v).bind fun v43 =>
 some v43)))
 (cond (Q7 .gtr (v.Text.length : Int) 1048576)
 (some 4)
 ((Xg N v).bind fun v46 =>
 some v46)))))))))
theorem Vw {N} {v} {r} (h : W4 N v = some r) : Xe Tryz.prog G1 96 [.agg (Q0.cells v)] (.int .i64 r) := by
 refine Qc k96 ?_
 unfold W4 at h
 rw [cX, cY] at h
 apply iU h <;> intro h
 ·cases h; exact (.p _)
 ·apply iU h <;> intro h
  ·cases h; exact (.p _)
  ·refine cP h Q0b p1 fun v3 h => ?_
   refine cP h Q2b p3 fun v5 h => ?_
   apply iU h <;> intro h
   ·cases h; exact (.p _)
   ·apply iU h <;> intro h
    ·refine cP h Q1p p1 fun v9 h => ?_
     apply iU h <;> intro h
     ·cases h; exact (.p _)
     ·apply iU h <;> intro h
      ·cases h; exact (.p _)
      ·refine cP h G3 p1 fun v13 h => ?_
       apply iU h <;> intro h
       ·apply iU h <;> intro h
        ·cases h; exact (.p _)
        ·cases h; exact (.p _)
       ·apply iU h <;> intro h
        ·apply iU h <;> intro h
         ·cases h; exact (.p _)
         ·apply iU h <;> intro h
          ·cases h; exact (.p _)
          ·refine cP h Wp (.cons q4 .nil) fun v20 h => ?_
           cases h; exact (.p _)
        ·apply iU h <;> intro h
         ·apply iU h <;> intro h
          ·cases h; exact (.p _)
          ·apply iU h <;> intro h
           ·cases h; exact (.p _)
           ·refine cP h Wp (.cons q4 .nil) fun v25 h => ?_
            cases h; exact (.p _)
         ·apply iU h <;> intro h
          ·cases h; exact (.p _)
          ·refine cP h Wp (.cons q4 .nil) fun v28 h => ?_
           cases h; exact (.p _)
    ·apply iU h <;> intro h
     ·cases h; exact (.p _)
     ·refine cP h G3 p1 fun v31 h => ?_
      apply iU h <;> intro h
      ·apply iU h <;> intro h
       ·cases h; exact (.p _)
       ·cases h; exact (.p _)
      ·apply iU h <;> intro h
       ·apply iU h <;> intro h
        ·cases h; exact (.p _)
        ·apply iU h <;> intro h
         ·cases h; exact (.p _)
         ·refine cP h Wp (.cons q4 .nil) fun v38 h => ?_
          cases h; exact (.p _)
       ·apply iU h <;> intro h
        ·apply iU h <;> intro h
         ·cases h; exact (.p _)
         ·apply iU h <;> intro h
          ·cases h; exact (.p _)
          ·refine cP h Wp (.cons q4 .nil) fun v43 h => ?_
           cases h; exact (.p _)
        ·apply iU h <;> intro h
         ·cases h; exact (.p _)
         ·refine cP h Wp (.cons q4 .nil) fun v46 h => ?_
          cases h; exact (.p _)
def Qs (_N : Nat) (c : Q1) : Option ((Int) × Q1) :=
 some (c.at', c)
theorem Zz {N} {c} {r} (h : Qs N c = some r) : Qb4 Tryz.prog G1 97 (Q1.cells c) [] (.int .i64 r.1) (Q1.cells r.2) := by
 refine Vd k97 ?_
 unfold Qs at h
 obtain rfl := Qa h; exact ⟨_, _, rfl, p3, (.p _)⟩
def Wk (_N : Nat) (c : Q1) : Option ((Bool) × Q1) :=
 some ((Q7 .eql c.err 0), c)
theorem Q12 {N} {c} {r} (h : Wk N c = some r) : Qb4 Tryz.prog G1 105 (Q1.cells c) [] (.bool r.1) (Q1.cells r.2) := by
 refine Vd Qs3 ?_
 unfold Wk at h
 rw [cX] at h
 obtain rfl := Qa h; exact ⟨_, _, rfl, p3, (.p _)⟩
def Vx (_N : Nat) (c : Q1) (n_1 : Int) : Option ((Bool) × Q1) :=
 cond (Q7 .geq n_1 0)
 (some ((Q7 .leq n_1 (IntKind.wrap .i64 ((c.text.length : Int) - c.at'))), c))
 (some (false, c))
theorem Q1v {N} {c} {n_1} {r} (h : Vx N c n_1 = some r) : Qb4 Tryz.prog G1 106 (Q1.cells c) [.int .i64 n_1] (.bool r.1) (Q1.cells r.2) := by
 refine Vd Qsc ?_
 unfold Vx at h
 rw [cX] at h
 refine Qb ?_
 apply iU h <;> intro h
 ·obtain rfl := Qa h; exact ⟨_, _, rfl, p3, (.p _)⟩
 ·obtain rfl := Qa h; exact ⟨_, _, rfl, p3, (.p _)⟩
def Qr (N : Nat) (c : Q1) (n_1 : Int) : Option ((List UInt8) × Q1) :=
 (Wk N c).bind fun v1 =>
 cond (!v1.1)
 (some ([], v1.2))
 ((Vx N v1.2 n_1).bind fun v4 =>
 cond (!v4.1)
 (some ([], (⟨v4.2.text, v4.2.at', 3⟩ : Q1)))
 (cond (decide (0 ≤ v4.2.at')) (cond (decide (0 ≤ (IntKind.wrap .i64 (v4.2.at' + n_1)))) (cond (Nat.ble v4.2.at'.toNat ((IntKind.wrap .i64 (v4.2.at' + n_1)).toNat) && Nat.ble ((IntKind.wrap .i64 (v4.2.at' + n_1)).toNat) v4.2.text.length) (some (((v4.2.text.take ((IntKind.wrap .i64 (v4.2.at' + n_1)).toNat)).drop v4.2.at'.toNat), (⟨v4.2.text, (IntKind.wrap .i64 (v4.2.at' + n_1)), v4.2.err⟩ : Q1))) none) none) none))
theorem Qz {N} {c} {n_1} {r} (h : Qr N c n_1 = some r) : Qb4 Tryz.prog G1 93 (Q1.cells c) [.int .i64 n_1] (.str r.1) (Q1.cells r.2) := by
 refine Vd k93 ?_
 unfold Qr at h
 refine cM h Q12 rfl p0 fun v1 h => ?_
 apply iU h <;> intro h
 ·obtain rfl := Qa h; exact ⟨_, _, rfl, p3, (.p _)⟩
 ·refine cM h Q1v rfl p1 fun v4 h => ?_
  apply iU h <;> intro h
  ·obtain rfl := Qa h; exact ⟨_, _, rfl, p3, (.p _)⟩
  ·refine Qb ?_
   refine kU h fun h => ?_
   refine kU h fun h => ?_
   refine kU h fun h => ?_
   obtain rfl := Qa h; exact ⟨_, _, rfl, p3, (.p _)⟩
def Qy (N : Nat) (c : Q1) (size : Int) : Option ((Int) × Q1) :=
 (Qr N c size).bind fun v1 =>
 (Uu N v1.1).bind fun v3 =>
 some (v3, v1.2)
theorem Yg {N} {c} {size} {r} (h : Qy N c size = some r) : Qb4 Tryz.prog G1 91 (Q1.cells c) [.int .i64 size] (.int .u64 r.1) (Q1.cells r.2) := by
 refine Vd k91 ?_
 unfold Qy at h
 refine cM h Qz rfl p1 fun v1 h => ?_
 refine cP h Q04 p1 fun v3 h => ?_
 obtain rfl := Qa h; exact ⟨_, _, rfl, p3, (.p _)⟩
def Z1 (_N : Nat) (c : Q1) : Option ((List UInt8) × Q1) :=
 cond (decide (0 ≤ c.at')) (cond (Nat.ble c.at'.toNat c.text.length && Nat.ble c.text.length c.text.length) (some (((c.text.take c.text.length).drop c.at'.toNat), c)) none) none
theorem Zy {N} {c} {r} (h : Z1 N c = some r) : Qb4 Tryz.prog G1 104 (Q1.cells c) [] (.str r.1) (Q1.cells r.2) := by
 refine Vd Qsh ?_
 unfold Z1 at h
 refine Qb ?_
 refine kU h fun h => ?_
 refine kU h fun h => ?_
 obtain rfl := Qa h; exact ⟨_, _, rfl, p3, (.p _)⟩
def Z0 (N : Nat) (c : Q1) : Option ((Int) × Q1) :=
 (Z1 N c).bind fun v1 =>
 some ((v1.1.length : Int), v1.2)
theorem Zx {N} {c} {r} (h : Z0 N c = some r) : Qb4 Tryz.prog G1 92 (Q1.cells c) [] (.int .i64 r.1) (Q1.cells r.2) := by
 refine Vd k92 ?_
 unfold Z0 at h
 refine cM h Zy rfl p0 fun v1 h => ?_
 obtain rfl := Qa h; exact ⟨_, _, rfl, p3, (.p _)⟩
def U0 (N : Nat) (c : Qh) (n_1 : Int) : Option (Int) :=
 (Vs N c.Kind).bind fun v1 =>
 cond v1.2
 (cond (Q7 .gtr c.Width 0)
 (cond (decide (0 ≤ (IntKind.wrap .i64 (64 - (IntKind.wrap .i64 (8 * c.Width)))))) (some (IntKind.wrap .u64 (Q6a .i64 (IntKind.wrap .i64 (Jh .u64 n_1 (IntKind.wrap .i64 (64 - (IntKind.wrap .i64 (8 * c.Width)))))) (IntKind.wrap .i64 (64 - (IntKind.wrap .i64 (8 * c.Width))))))) none)
 (some n_1))
 (some n_1)
theorem Q3r {N} {c} {n_1} {r} (h : U0 N c n_1 = some r) : Xe Tryz.prog G1 94 [.agg (Qh.cells c), .int .u64 n_1] (.int .u64 r) := by
 refine Qc k94 ?_
 unfold U0 at h
 rw [cX] at h
 refine cP h Q0b p1 fun v1 h => ?_
 apply iU h <;> intro h
 ·apply iU h <;> intro h
  ·obtain ⟨hk5, h⟩ := Jx h
   refine Uw hk5 ?_
   refine Uw hk5 ?_
   cases h; exact (.p _)
  ·cases h; exact (.p _)
 ·cases h; exact (.p _)
def Qn (_N : Nat) (c : Q1) : Option ((Int) × Q1) :=
 some (c.err, c)
theorem Zg {N} {c} {r} (h : Qn N c = some r) : Qb4 Tryz.prog G1 95 (Q1.cells c) [] (.int .i64 r.1) (Q1.cells r.2) := by
 refine Vd k95 ?_
 unfold Qn at h
 obtain rfl := Qa h; exact ⟨_, _, rfl, p3, (.p _)⟩
def J7 (N : Nat) (code : Int) (s_1 : List UInt8) : Option (Q0 × Int × Int) :=
 (Wo N code).bind fun v1 =>
 cond (!v1.2)
 (some ((⟨0, 0, [], []⟩ : Q0), 0, 8))
 (cond v1.1.Items
 (some ((⟨0, 0, [], []⟩ : Q0), 0, 8))
 (cond v1.1.Sized
 ((Qy N (⟨s_1, 0, 0⟩ : Q1) v1.1.Width).bind fun v6 =>
 (Z0 N v6.2).bind fun v8 =>
 cond (Q7 .gtr v6.1 (IntKind.wrap .u64 v8.1))
 (some ((⟨0, 0, [], []⟩ : Q0), 0, 3))
 ((Qr N v8.2 (IntKind.wrap .i64 v6.1)).bind fun v11 =>
 (Qn N v11.2).bind fun v13 =>
 cond (Q7 .neq v13.1 0)
 ((Qn N v13.2).bind fun v16 =>
 some ((⟨0, 0, [], []⟩ : Q0), 0, v16.1))
 ((W4 N (⟨v1.1.Kind, 0, v11.1, []⟩ : Q0)).bind fun v18 =>
 cond (Q7 .eql v18 0)
 ((Qs N v13.2).bind fun v21 =>
 some ((⟨v1.1.Kind, 0, v11.1, []⟩ : Q0), v21.1, 0))
 (cond (Q7 .eql v18 2)
 (some ((⟨0, 0, [], []⟩ : Q0), 0, 5))
 (some ((⟨0, 0, [], []⟩ : Q0), 0, v18))))))
 (cond (Q7 .eql v1.1.Width 16)
 ((Qr N (⟨s_1, 0, 0⟩ : Q1) 16).bind fun v25 =>
 (Qn N v25.2).bind fun v27 =>
 cond (Q7 .neq v27.1 0)
 ((Qn N v27.2).bind fun v30 =>
 some ((⟨0, 0, [], []⟩ : Q0), 0, v30.1))
 ((W4 N (⟨v1.1.Kind, 0, v25.1, []⟩ : Q0)).bind fun v32 =>
 cond (Q7 .eql v32 0)
 ((Qs N v27.2).bind fun v35 =>
 some ((⟨v1.1.Kind, 0, v25.1, []⟩ : Q0), v35.1, 0))
 (cond (Q7 .eql v32 2)
 (some ((⟨0, 0, [], []⟩ : Q0), 0, 5))
 (some ((⟨0, 0, [], []⟩ : Q0), 0, v32)))))
 (cond (Q7 .eql v1.1.Code 65)
 ((Qn N (⟨s_1, 0, 0⟩ : Q1)).bind fun v39 =>
 cond (Q7 .neq v39.1 0)
 ((Qn N v39.2).bind fun v42 =>
 some ((⟨0, 0, [], []⟩ : Q0), 0, v42.1))
 ((W4 N (⟨v1.1.Kind, 1, [], []⟩ : Q0)).bind fun v44 =>
 cond (Q7 .eql v44 0)
 ((Qs N v39.2).bind fun v47 =>
 some ((⟨v1.1.Kind, 1, [], []⟩ : Q0), v47.1, 0))
 (cond (Q7 .eql v44 2)
 (some ((⟨0, 0, [], []⟩ : Q0), 0, 5))
 (some ((⟨0, 0, [], []⟩ : Q0), 0, v44)))))
 ((Qy N (⟨s_1, 0, 0⟩ : Q1) v1.1.Width).bind fun v50 =>
 (U0 N v1.1 v50.1).bind fun v52 =>
 (Qn N v50.2).bind fun v54 =>
 cond (Q7 .neq v54.1 0)
 ((Qn N v54.2).bind fun v57 =>
 some ((⟨0, 0, [], []⟩ : Q0), 0, v57.1))
 ((W4 N (⟨v1.1.Kind, v52, [], []⟩ : Q0)).bind fun v59 =>
 cond (Q7 .eql v59 0)
 ((Qs N v54.2).bind fun v62 =>
 some ((⟨v1.1.Kind, v52, [], []⟩ : Q0), v62.1, 0))
 (cond (Q7 .eql v59 2)
 (some ((⟨0, 0, [], []⟩ : Q0), 0, 5))
 (some ((⟨0, 0, [], []⟩ : Q0), 0, v59)))))))))
theorem Q5z {N} {code} {s_1} {r} (h : J7 N code s_1 = some r) : Xe Tryz.prog G1 82 [.int .i64 code, .str s_1] (.tuple [.agg (Q0.cells r.1), .int .i64 r.2.1, .int .i64 r.2.2]) := by
 refine Qc k82 ?_
 unfold J7 at h
 rw [cX] at h
 refine cP h Jc p1 fun v1 h => ?_
 apply iU h <;> intro h
 ·obtain rfl := Qa h; exact (Frz.tuple' (.cons q4n p2))
 ·apply iU h <;> intro h
  ·obtain rfl := Qa h; exact (Frz.tuple' (.cons q4n p2))
  ·refine W5 k90 ?_
   apply iU h <;> intro h
   ·refine cM h Yg rfl p1 fun v6 h => ?_
    refine cM h Zx rfl p0 fun v8 h => ?_
    apply iU h <;> intro h
    ·obtain rfl := Qa h; exact (Frz.tuple' (.cons q4n p2))
    ·refine cM h Qz rfl p1 fun v11 h => ?_
     refine cM h Zg rfl p0 fun v13 h => ?_
     apply iU h <;> intro h
     ·refine cM h Zg rfl p0 fun v16 h => ?_
      obtain rfl := Qa h; exact (Frz.tuple' (.cons q4n p2))
     ·refine cP h Vw (.cons q4n .nil) fun v18 h => ?_
      apply iU h <;> intro h
      ·refine Qb ?_
       refine dM h Zz rfl p0 fun v21 h => ?_
       obtain rfl := Qa h; exact (Frz.tuple' (.cons q4n p2))
      ·apply iU h <;> intro h
       ·obtain rfl := Qa h; exact (Frz.tuple' (.cons q4n p2))
       ·obtain rfl := Qa h; exact (Frz.tuple' (.cons q4n p2))
   ·apply iU h <;> intro h
    ·refine cM h Qz rfl p1 fun v25 h => ?_
     refine cM h Zg rfl p0 fun v27 h => ?_
     apply iU h <;> intro h
     ·refine cM h Zg rfl p0 fun v30 h => ?_
      obtain rfl := Qa h; exact (Frz.tuple' (.cons q4n p2))
     ·refine cP h Vw (.cons q4n .nil) fun v32 h => ?_
      apply iU h <;> intro h
      ·refine Qb ?_
       refine dM h Zz rfl p0 fun v35 h => ?_
       obtain rfl := Qa h; exact (Frz.tuple' (.cons q4n p2))
      ·apply iU h <;> intro h
       ·obtain rfl := Qa h; exact (Frz.tuple' (.cons q4n p2))
       ·obtain rfl := Qa h; exact (Frz.tuple' (.cons q4n p2))
    ·apply iU h <;> intro h
     ·refine cM h Zg rfl p0 fun v39 h => ?_
      apply iU h <;> intro h
      ·refine cM h Zg rfl p0 fun v42 h => ?_
       obtain rfl := Qa h; exact (Frz.tuple' (.cons q4n p2))
      ·refine cP h Vw (.cons q4n .nil) fun v44 h => ?_
       apply iU h <;> intro h
       ·refine Qb ?_
        refine dM h Zz rfl p0 fun v47 h => ?_
        obtain rfl := Qa h; exact (Frz.tuple' (.cons q4n p2))
       ·apply iU h <;> intro h
        ·obtain rfl := Qa h; exact (Frz.tuple' (.cons q4n p2))
        ·obtain rfl := Qa h; exact (Frz.tuple' (.cons q4n p2))
     ·refine Qb ?_
      refine dM h Yg rfl p1 fun v50 h => ?_
      refine cD h Q3r (.cons (Frz.agg' p5) p1) fun v52 h => ?_
      refine cM h Zg rfl p0 fun v54 h => ?_
      apply iU h <;> intro h
      ·refine cM h Zg rfl p0 fun v57 h => ?_
       obtain rfl := Qa h; exact (Frz.tuple' (.cons q4n p2))
      ·refine cP h Vw (.cons q4n .nil) fun v59 h => ?_
       apply iU h <;> intro h
       ·refine Qb ?_
        refine dM h Zz rfl p0 fun v62 h => ?_
        obtain rfl := Qa h; exact (Frz.tuple' (.cons q4n p2))
       ·apply iU h <;> intro h
        ·obtain rfl := Qa h; exact (Frz.tuple' (.cons q4n p2))
        ·obtain rfl := Qa h; exact (Frz.tuple' (.cons q4n p2))
def Zw (_N : Nat) (v : Q0) : Option (Bool) :=
 cond (Q7 .eql v.Kind 11)
 (cond (Q7 .eql (Q3l .u64 (Q6a .u64 v.N' 23) 255) 255)
 (some (Q7 .neq (Jh .u64 v.N' 41) 0))
 (some false))
 (cond (Q7 .eql v.Kind 12)
 (cond (Q7 .eql (Q3l .u64 (Q6a .u64 v.N' 52) 2047) 2047)
 (some (Q7 .neq (Jh .u64 v.N' 12) 0))
 (some false))
 (some false))
theorem Ji {N} {v} {r} (h : Zw N v = some r) : Xe Tryz.prog G1 117 [.agg (Q0.cells v)] (.bool r) := by
 refine Qc Qrr ?_
 unfold Zw at h
 rw [cX] at h
 apply iU h <;> intro h
 ·apply iU h <;> intro h
  ·cases h; exact (.p _)
  ·cases h; exact (.p _)
 ·apply iU h <;> intro h
  ·apply iU h <;> intro h
   ·cases h; exact (.p _)
   ·cases h; exact (.p _)
  ·cases h; exact (.p _)
def Xu (rz : Q0 → Q0 → Option (Bool)) (N : Nat) (a : Q0) (b : Q0) : Nat → Int → Option (Bool)
 | 0, _ => none
 | n + 1, s28 =>
  cond (Q7 .lss s28 ((Q0.rows a.Items).length : Int))
  ((idx a.Items s28).bind fun y30 =>
  (idx b.Items s28).bind fun y32 =>
  (rz y30 y32).bind fun v34 =>
  cond (!v34)
  (some false)
  (Xu rz N a b n (IntKind.wrap .i64 (s28 + 1))))
  (some true)
def Xr (rz : Q0 → Q0 → Option (Bool)) (N : Nat) (a : Q0) (b : Q0) : Nat → Int → Option (Bool)
 | 0, _ => none
 | n + 1, s54 =>
  cond (Q7 .lss s54 ((Q0.rows a.Items).length : Int))
  ((idx a.Items s54).bind fun y56 =>
  (idx b.Items s54).bind fun y58 =>
  (rz y56 y58).bind fun v60 =>
  cond (!v60)
  (some false)
  (Xr rz N a b n (IntKind.wrap .i64 (s54 + 1))))
  (some true)
def Us (rz : Q0 → Q0 → Option (Bool)) (N : Nat) (a : Q0) (b : Q0) : Option (Bool) :=
 cond (Q7 .neq a.Kind b.Kind)
 (some false)
 (cond (Q1q .neq a.Text b.Text)
 (some false)
 (cond (Q7 .neq ((Q0.rows a.Items).length : Int) ((Q0.rows b.Items).length : Int))
 (some false)
 (cond (Q7 .neq a.N' b.N')
 ((Zw N a).bind fun v5 =>
 cond v5
 ((Zw N b).bind fun v8 =>
 cond (!v8)
 (some false)
 (Xu rz N a b N 0))
 (some false))
 (Xr rz N a b N 0))))
theorem Q3k {rz : Q0 → Q0 → Option (Bool)} (hy1 : ∀ {a} {b} {r}, rz a b = some r → Xe Tryz.prog G1 112 [.agg (Q0.cells a), .agg (Q0.cells b)] (.bool r)) {N} {a} {b} {r} (h : Us rz N a b = some r) : Xe Tryz.prog G1 112 [.agg (Q0.cells a), .agg (Q0.cells b)] (.bool r) := by
 refine Qc Qsi ?_
 unfold Us at h
 rw [cX, cY] at h
 apply iU h <;> intro h
 ·cases h; exact (.p _)
 ·apply iU h <;> intro h
  ·cases h; exact (.p _)
  ·apply iU h <;> intro h
   ·cases h; exact (.p _)
   ·apply iU h <;> intro h
    ·refine cP h Ji (.cons q4 .nil) fun v5 h => ?_
     apply iU h <;> intro h
     ·refine cP h Ji (.cons q4 .nil) fun v8 h => ?_
      apply iU h <;> intro h
      ·cases h; exact (.p _)
      ·refine lpC (τ := Int) (fun s28 => (.any :: .any :: .ptr 0 0 :: .ptr 1 0 :: a16 (a16 (a4 (a2 (.any :: iI ((Q0.rows a.Items).length : Int) :: iI s28 :: a8 (a4 (a2 (.any :: []))))))) : List AV)) (fun _ => (.cells (iI a.Kind :: iW a.N' :: iS a.Text :: .p (.slice 4 (Q0.rows a.Items)) :: []) :: .cells (iI b.Kind :: iW b.N' :: iS b.Text :: .p (.slice 4 (Q0.rows b.Items)) :: []) :: [] : List AObj)) (fun n0 s28 => Xu rz N a b n0 s28) (0) h (fun i => i) ⟨(rW <| rE rfl <| rE rfl <| rX <| rX <| rX <| rX <| rV <| rW <| rA <| rE rfl <| rE rfl <| rX <| rV <| rW <| rA <| rN), (hE rfl <| hE rfl <| hN), rfl, rfl, (roE rfl <| roE rfl <| roN)⟩ fun n0 s28 h => ?_
       simp only [Xu] at h
       rw [cX] at h
       apply iU h <;> intro h
       ·refine Qb ?_
        refine Q0.xR h fun y30 h => ?_
        refine Q0.xR h fun y32 h => ?_
        refine cD h hy1 (.cons q4 (.cons q4 .nil)) fun v34 h => ?_
        apply iU h <;> intro h
        ·cases h; exact (.p _)
        ·show Exists _
         exact ⟨(n0, (IntKind.wrap .i64 (s28 + 1))), h, Nat.lt_succ_self _, (fun i => i), ⟨(rW <| rE rfl <| rE rfl <| rX <| rX <| rX <| rX <| rV <| rW <| rA <| rE rfl <| rE rfl <| rX <| rV <| rW <| rA <| rN), (hE rfl <| hE rfl <| hN), rfl, rfl, (roE rfl <| roE rfl <| roN)⟩⟩
       ·cases h; exact (.p _)
     ·cases h; exact (.p _)
    ·refine lpC (τ := Int) (fun s54 => (.any :: .any :: .ptr 0 0 :: .ptr 1 0 :: a16 (a16 (a4 (a2 (.any :: iI ((Q0.rows a.Items).length : Int) :: iI s54 :: a8 (a4 (a2 (.any :: []))))))) : List AV)) (fun _ => (.cells (iI a.Kind :: iW a.N' :: iS a.Text :: .p (.slice 4 (Q0.rows a.Items)) :: []) :: .cells (iI b.Kind :: iW b.N' :: iS b.Text :: .p (.slice 4 (Q0.rows b.Items)) :: []) :: [] : List AObj)) (fun n1 s54 => Xr rz N a b n1 s54) (0) h (fun i => i) ⟨(rW <| rE rfl <| rE rfl <| rX <| rX <| rX <| rX <| rV <| rW <| rA <| rE rfl <| rE rfl <| rX <| rV <| rW <| rA <| rN), (hE rfl <| hE rfl <| hN), rfl, rfl, (roE rfl <| roE rfl <| roN)⟩ fun n1 s54 h => ?_
     simp only [Xr] at h
     rw [cX] at h
     apply iU h <;> intro h
     ·refine Qb ?_
      refine Q0.xR h fun y56 h => ?_
      refine Q0.xR h fun y58 h => ?_
      refine cD h hy1 (.cons q4 (.cons q4 .nil)) fun v60 h => ?_
      apply iU h <;> intro h
      ·cases h; exact (.p _)
      ·show Exists _
       exact ⟨(n1, (IntKind.wrap .i64 (s54 + 1))), h, Nat.lt_succ_self _, (fun i => i), ⟨(rW <| rE rfl <| rE rfl <| rX <| rX <| rX <| rX <| rV <| rW <| rA <| rE rfl <| rE rfl <| rX <| rV <| rW <| rA <| rN), (hE rfl <| hE rfl <| hN), rfl, rfl, (roE rfl <| roE rfl <| roN)⟩⟩
     ·cases h; exact (.p _)
def Wb : Nat → Q0 → Q0 → Option (Bool)
 | 0 => fun _ _ => none
 | N + 1 => Us (Wb N) N
theorem Q30 {N} {a} {b} {r} (h : Wb N a b = some r) : Xe Tryz.prog G1 112 [.agg (Q0.cells a), .agg (Q0.cells b)] (.bool r) := by
 induction N generalizing a b r with
 | zero => simp [Wb] at h
 | succ N ih => exact Q3k (fun h => ih h) h
def W7 (N : Nat) (k0 : Int → Option (Int)) (v : Q0) (i56 : Int) : Nat → Int → Option (Int)
 | 0, _ => none
 | n + 1, k75 =>
  cond (Q7 .lss k75 i56)
  ((idx v.Items i56).bind fun y77 =>
  (idx v.Items k75).bind fun y79 =>
  (Wb N y77 y79).bind fun v81 =>
  cond v81
  (some 16)
  (W7 N k0 v i56 n (IntKind.wrap .i64 (k75 + 2))))
  (k0 (IntKind.wrap .i64 (i56 + 2)))
def X0 (N : Nat) (v : Q0) : Nat → Int → Option (Int)
 | 0, _ => none
 | n + 1, i56 =>
  cond (Q7 .lss i56 ((Q0.rows v.Items).length : Int))
  (W7 N (X0 N v n) v i56 N 0)
  (some 0)
def Xx (N : Nat) (v : Q0) : Option (Int) :=
 cond (Q7 .neq v.Kind 23)
 (some 0)
 (X0 N v N 2)
theorem Vy {N} {v} {r} (h : Xx N v = some r) : Xe Tryz.prog G1 99 [.agg (Q0.cells v)] (.int .i64 r) := by
 refine Qc k99 ?_
 unfold Xx at h
 rw [cX] at h
 apply iU h <;> intro h
 ·cases h; exact (.p _)
 ·refine lpC (τ := Int) (fun i56 => (.any :: .ptr 0 0 :: .any :: iI i56 :: a16 (a8 (a2 (.any :: []))) : List AV)) (fun _ => (.cells (iI v.Kind :: iW v.N' :: iS v.Text :: .p (.slice 4 (Q0.rows v.Items)) :: []) :: [] : List AObj)) (fun n0 i56 => X0 N v n0 i56) (2) h (fun i => i) ⟨(rA <| rE rfl <| rA <| rE rfl <| rX <| rX <| rX <| rW <| rA <| rN), (hE rfl <| hN), rfl, rfl, (roE rfl <| roN)⟩ fun n0 i56 h => ?_
  simp only [X0] at h
  rw [cX] at h
  apply iU h <;> intro h
  ·refine lpC (τ := Int) (fun k75 => (.any :: .ptr 0 0 :: .any :: iI i56 :: iI k75 :: a16 (a8 (a2 ([]))) : List AV)) (fun _ => (.cells (iI v.Kind :: iW v.N' :: iS v.Text :: .p (.slice 4 (Q0.rows v.Items)) :: []) :: [] : List AObj)) (fun n1 k75 => W7 N (X0 N v n0) v i56 n1 k75) (0) h (fun i => i) ⟨(rA <| rE rfl <| rA <| rE rfl <| rE rfl <| rX <| rX <| rX <| rW <| rN), (hE rfl <| hN), rfl, rfl, (roE rfl <| roN)⟩ fun n1 k75 h => ?_
   simp only [W7] at h
   rw [cX] at h
   apply iU h <;> intro h
   ·refine Qb ?_
    refine Q0.xR h fun y77 h => ?_
    refine Q0.xR h fun y79 h => ?_
    refine cD h Q30 (.cons q4 (.cons q4 .nil)) fun v81 h => ?_
    apply iU h <;> intro h
    ·cases h; exact (.p _)
    ·show Exists _
     exact ⟨(n1, (IntKind.wrap .i64 (k75 + 2))), h, Nat.lt_succ_self _, (fun i => i), ⟨(rA <| rE rfl <| rA <| rE rfl <| rE rfl <| rX <| rX <| rX <| rW <| rN), (hE rfl <| hN), rfl, rfl, (roE rfl <| roN)⟩⟩
   ·show Exists _
    exact ⟨(n0, (IntKind.wrap .i64 (i56 + 2))), h, Nat.lt_succ_self _, (fun i => i), ⟨(rA <| rE rfl <| rA <| rE rfl <| rX <| rX <| rX <| rW <| rA <| rN), (hE rfl <| hN), rfl, rfl, (roE rfl <| roN)⟩⟩
  ·cases h; exact (.p _)
end
end
end Go.Av
