/- The law. Part of a proof of a given statement: for every input the law returns true and the arguments read as before; no condition beyond the given row. -/
import Derived.Test.YtegedmcbfmfjeaaGreatDoorLiftF1
namespace Go.Av
noncomputable section
open Go.Proofs
set_option maxRecDepth 100000
set_option maxHeartbeats 4000000
attribute [local irreducible] U2 Wc Q8m Q8n Qkm Qoc Qb8
section
def Xj (rz : Q0 → Int → Int → Option (Int)) (N : Nat) (v : Q0) (deep : Int) (most : Int) : Nat → Int → Int → Option (Int)
 | 0, _, _ => none
 | n + 1, n18, i19 =>
  cond (Q5 .lss i19 ((Q0.rows v.Items).length : Int))
  (cond (Q5 .leq n18 most)
  ((idx v.Items i19).bind fun y22 =>
  (rz y22 (IntKind.wrap .i64 (deep - 1)) (IntKind.wrap .i64 (most - n18))).bind fun v24 =>
  Xj rz N v deep most n (IntKind.wrap .i64 (n18 + v24)) (IntKind.wrap .i64 (i19 + 1)))
  (some n18))
  (some n18)
def Uc (rz : Q0 → Int → Int → Option (Int)) (N : Nat) (v : Q0) (deep : Int) (most : Int) : Option (Int) :=
 cond (Q5 .lss deep 0)
 (some (IntKind.wrap .i64 (most + 1)))
 (cond (Q5 .gtr ((Q0.rows v.Items).length : Int) most)
 (some (IntKind.wrap .i64 (most + 1)))
 (cond (Q5 .gtr (v.Text.length : Int) 400)
 (some (IntKind.wrap .i64 (most + 1)))
 (Xj rz N v deep most N 1 0)))
theorem Q3s {rz : Q0 → Int → Int → Option (Int)} (hy2 : ∀ {v} {deep} {most} {r}, rz v deep most = some r → X1 Tryz.prog G1 33 [.agg (Q0.cells v), .int .i64 deep, .int .i64 most] (.int .i64 r)) {N} {v} {deep} {most} {r} (h : Uc rz N v deep most = some r) : X1 Tryz.prog G1 33 [.agg (Q0.cells v), .int .i64 deep, .int .i64 most] (.int .i64 r) := by
 refine Q4 k33 ?_
 unfold Uc at h
 rw [cX] at h
 apply iU h <;> intro h
 ·cases h; exact (.p _)
 ·apply iU h <;> intro h
  ·cases h; exact (.p _)
  ·apply iU h <;> intro h
   ·cases h; exact (.p _)
   ·refine lpC (τ := Int × Int) (fun ⟨n18, i19⟩ => (.any :: iI deep :: iI most :: .ptr 0 0 :: a2 (.any :: iI n18 :: iI i19 :: a16 (a16 (a8 (a2 (.any :: []))))) : List AV)) (fun ⟨_, _⟩ => (.cells (iI v.Kind :: iW v.N' :: iS v.Text :: .p (.slice 4 (Q0.rows v.Items)) :: []) :: [] : List AObj)) (fun n0 ⟨n18, i19⟩ => Xj rz N v deep most n0 n18 i19) (1, 0) h (fun i => i) ⟨(rA <| rE rfl <| rE rfl <| rE rfl <| rW <| rA <| rE rfl <| rE rfl <| rX <| rX <| rX <| rX <| rX <| rW <| rA <| rN), (hE rfl <| hN), rfl, rfl, (roE rfl <| roN)⟩ fun n0 ⟨n18, i19⟩ h => ?_
    simp only [Xj] at h
    rw [cX] at h
    apply iU h <;> intro h
    ·apply iU h <;> intro h
     ·refine Q0.xR h fun y22 h => ?_
      refine cP h hy2 (.cons q4 p2) fun v24 h => ?_
      show Exists _
      exact ⟨(n0, (IntKind.wrap .i64 (n18 + v24)), (IntKind.wrap .i64 (i19 + 1))), h, Nat.lt_succ_self _, (fun i => i), ⟨(rA <| rE rfl <| rE rfl <| rE rfl <| rW <| rA <| rE rfl <| rE rfl <| rX <| rX <| rX <| rX <| rX <| rW <| rA <| rN), (hE rfl <| hN), rfl, rfl, (roE rfl <| roN)⟩⟩
     ·cases h; exact (.p _)
    ·cases h; exact (.p _)
def Xn : Nat → Q0 → Int → Int → Option (Int)
 | 0 => fun _ _ _ => none
 | N + 1 => Uc (Xn N) N
theorem Q3q {N} {v} {deep} {most} {r} (h : Xn N v deep most = some r) : X1 Tryz.prog G1 33 [.agg (Q0.cells v), .int .i64 deep, .int .i64 most] (.int .i64 r) := by
 induction N generalizing v deep most r with
 | zero => simp [Xn] at h
 | succ N ih => exact Q3s (fun h => ih h) h
def Xu (N : Nat) (v : Q0) : Option (Bool) :=
 (Xn N v 6 40).bind fun v1 =>
 some (Q5 .leq v1 40)
theorem Q0y {N} {v} {r} (h : Xu N v = some r) : X1 Tryz.prog G1 22 [.agg (Q0.cells v)] (.bool r) := by
 refine Q4 k22 ?_
 unfold Xu at h
 rw [cX] at h
 refine cP h Q3q (.cons q4 p2) fun v1 h => ?_
 cases h; exact (.p _)
def Y1 (N : Nat) (f : Q3) : Nat → Int → Option (Bool)
 | 0, _ => none
 | n + 1, i16 =>
  cond (Q5 .lss i16 ((Q0.rows f.Values).length : Int))
  ((idx f.Values i16).bind fun y18 =>
  (Xu N y18).bind fun v20 =>
  cond (!v20)
  (some false)
  (Y1 N f n (IntKind.wrap .i64 (i16 + 1))))
  (some true)
def Xs (N : Nat) (f : Q3) : Option (Bool) :=
 cond (Q5 .gtr ((Q0.rows f.Values).length : Int) 6)
 (some false)
 (cond (Q5 .gtr (f.Ext.length : Int) 1100)
 (some false)
 (Y1 N f N 0))
theorem Q0o {N} {f} {r} (h : Xs N f = some r) : X1 Tryz.prog G1 7 [.agg (Q3.cells f)] (.bool r) := by
 refine Q4 k7 ?_
 unfold Xs at h
 rw [cX] at h
 apply iU h <;> intro h
 ·cases h; exact (.p _)
 ·apply iU h <;> intro h
  ·cases h; exact (.p _)
  ·refine lpC (τ := Int) (fun i16 => (.any :: .ptr 0 0 :: .any :: iI i16 :: a16 (a8 ([])) : List AV)) (fun _ => (.cells (iI f.Type' :: iI f.Channel :: iS f.Ext :: .p (.slice 4 (Q0.rows f.Values)) :: []) :: [] : List AObj)) (fun n0 i16 => Y1 N f n0 i16) (0) h (fun i => i) ⟨(rA <| rE rfl <| rA <| rE rfl <| rX <| rX <| rX <| rN), (hE rfl <| hN), rfl, rfl, (roE rfl <| roN)⟩ fun n0 i16 h => ?_
   simp only [Y1] at h
   rw [cX] at h
   apply iU h <;> intro h
   ·refine Q0.xR h fun y18 h => ?_
    refine cP h Q0y (.cons q4 .nil) fun v20 h => ?_
    apply iU h <;> intro h
    ·cases h; exact (.p _)
    ·show Exists _
     exact ⟨(n0, (IntKind.wrap .i64 (i16 + 1))), h, Nat.lt_succ_self _, (fun i => i), ⟨(rA <| rE rfl <| rA <| rE rfl <| rX <| rX <| rX <| rN), (hE rfl <| hN), rfl, rfl, (roE rfl <| roN)⟩⟩
   ·cases h; exact (.p _)
def Xt (_N : Nat) : Option (List Qm) :=
 some [(⟨64, 1, 0, false, false⟩ : Qm), (⟨65, 2, 0, false, false⟩ : Qm), (⟨66, 2, 0, false, false⟩ : Qm), (⟨86, 2, 1, false, false⟩ : Qm), (⟨80, 3, 1, false, false⟩ : Qm), (⟨96, 4, 2, false, false⟩ : Qm), (⟨67, 5, 0, false, false⟩ : Qm), (⟨82, 5, 1, false, false⟩ : Qm), (⟨112, 5, 4, false, false⟩ : Qm), (⟨68, 6, 0, false, false⟩ : Qm), (⟨83, 6, 1, false, false⟩ : Qm), (⟨128, 6, 8, false, false⟩ : Qm), (⟨81, 7, 1, false, false⟩ : Qm), (⟨97, 8, 2, false, false⟩ : Qm), (⟨84, 9, 1, false, false⟩ : Qm), (⟨113, 9, 4, false, false⟩ : Qm), (⟨85, 10, 1, false, false⟩ : Qm), (⟨129, 10, 8, false, false⟩ : Qm), (⟨114, 11, 4, false, false⟩ : Qm), (⟨130, 12, 8, false, false⟩ : Qm), (⟨116, 13, 4, false, false⟩ : Qm), (⟨132, 14, 8, false, false⟩ : Qm), (⟨148, 15, 16, false, false⟩ : Qm), (⟨115, 16, 4, false, false⟩ : Qm), (⟨131, 17, 8, false, false⟩ : Qm), (⟨152, 18, 16, false, false⟩ : Qm), (⟨160, 19, 1, true, false⟩ : Qm), (⟨176, 19, 4, true, false⟩ : Qm), (⟨161, 20, 1, true, false⟩ : Qm), (⟨177, 20, 4, true, false⟩ : Qm), (⟨163, 21, 1, true, false⟩ : Qm), (⟨179, 21, 4, true, false⟩ : Qm), (⟨69, 22, 0, false, true⟩ : Qm), (⟨192, 22, 1, true, true⟩ : Qm), (⟨208, 22, 4, true, true⟩ : Qm), (⟨193, 23, 1, true, true⟩ : Qm), (⟨209, 23, 4, true, true⟩ : Qm), (⟨224, 24, 1, true, true⟩ : Qm), (⟨240, 24, 4, true, true⟩ : Qm), (⟨0, 25, 0, false, true⟩ : Qm)]
theorem Ju {N} {r} (h : Xt N = some r) : X1 Tryz.prog G1 72 [] (.slice 5 (Qi Qm.cells r)) := by
 refine Q4 k72 ?_
 unfold Xt at h
 obtain rfl := Qj h; exact (frz_own (c := Qm.cells) (l := ([(⟨64, 1, 0, false, false⟩ : Qm), (⟨65, 2, 0, false, false⟩ : Qm), (⟨66, 2, 0, false, false⟩ : Qm), (⟨86, 2, 1, false, false⟩ : Qm), (⟨80, 3, 1, false, false⟩ : Qm), (⟨96, 4, 2, false, false⟩ : Qm), (⟨67, 5, 0, false, false⟩ : Qm), (⟨82, 5, 1, false, false⟩ : Qm), (⟨112, 5, 4, false, false⟩ : Qm), (⟨68, 6, 0, false, false⟩ : Qm), (⟨83, 6, 1, false, false⟩ : Qm), (⟨128, 6, 8, false, false⟩ : Qm), (⟨81, 7, 1, false, false⟩ : Qm), (⟨97, 8, 2, false, false⟩ : Qm), (⟨84, 9, 1, false, false⟩ : Qm), (⟨113, 9, 4, false, false⟩ : Qm), (⟨85, 10, 1, false, false⟩ : Qm), (⟨129, 10, 8, false, false⟩ : Qm), (⟨114, 11, 4, false, false⟩ : Qm), (⟨130, 12, 8, false, false⟩ : Qm), (⟨116, 13, 4, false, false⟩ : Qm), (⟨132, 14, 8, false, false⟩ : Qm), (⟨148, 15, 16, false, false⟩ : Qm), (⟨115, 16, 4, false, false⟩ : Qm), (⟨131, 17, 8, false, false⟩ : Qm), (⟨152, 18, 16, false, false⟩ : Qm), (⟨160, 19, 1, true, false⟩ : Qm), (⟨176, 19, 4, true, false⟩ : Qm), (⟨161, 20, 1, true, false⟩ : Qm), (⟨177, 20, 4, true, false⟩ : Qm), (⟨163, 21, 1, true, false⟩ : Qm), (⟨179, 21, 4, true, false⟩ : Qm), (⟨69, 22, 0, false, true⟩ : Qm), (⟨192, 22, 1, true, true⟩ : Qm), (⟨208, 22, 4, true, true⟩ : Qm), (⟨193, 23, 1, true, true⟩ : Qm), (⟨209, 23, 4, true, true⟩ : Qm), (⟨224, 24, 1, true, true⟩ : Qm), (⟨240, 24, 4, true, true⟩ : Qm), (⟨0, 25, 0, false, true⟩ : Qm)] : List Qm)) (fun _ => rfl) rfl trivial (by first | (simp; done) | (simp [Qi]; done)))
def Xw (N : Nat) (code : Int) (v1 : List Qm) : Nat → Int → Option (Qm × Bool)
 | 0, _ => none
 | n + 1, i16 =>
  cond (Q5 .lss i16 ((Qi Qm.cells v1).length : Int))
  ((idx v1 i16).bind fun y18 =>
  cond (Q5 .eql y18.Code code)
  ((idx v1 i16).bind fun y21 =>
  some (y21, true))
  (Xw N code v1 n (IntKind.wrap .i64 (i16 + 1))))
  (some ((⟨0, 0, 0, false, false⟩ : Qm), false))
def Xe (N : Nat) (code : Int) : Option (Qm × Bool) :=
 (Xt N).bind fun v1 =>
 Xw N code v1 N 0
theorem Vu {N} {code} {r} (h : Xe N code = some r) : X1 Tryz.prog G1 58 [.int .i64 code] (.tuple [.agg (Qm.cells r.1), .bool r.2]) := by
 refine Q4 k58 ?_
 unfold Xe at h
 refine cP h Ju p0 fun v1 h => ?_
 refine lpC (τ := Int) (fun i16 => (iI code :: .any :: .ptr 0 0 :: .any :: .p (.slice 5 (Qi Qm.cells v1)) :: iI i16 :: a16 (a2 (.any :: [])) : List AV)) (fun _ => (.cells (iI 0 :: iI 0 :: iI 0 :: .p (.bool false) :: .p (.bool false) :: []) :: [] : List AObj)) (fun n0 i16 => Xw N code v1 n0 i16) (0) h (fun i => i) ⟨(rE rfl <| rA <| rE rfl <| rA <| rE rfl <| rE rfl <| rX <| rX <| rW <| rA <| rN), (hE rfl <| hN), rfl, rfl, (roE rfl <| roN)⟩ fun n0 i16 h => ?_
 simp only [Xw] at h
 rw [cX] at h
 apply iU h <;> intro h
 ·refine xR h fun y18 h => ?_
  apply iU h <;> intro h
  ·refine xR h fun y21 h => ?_
   obtain rfl := Qj h; exact (Frz.tuple' (.cons (Frz.agg' p5) p1))
  ·show Exists _
   exact ⟨(n0, (IntKind.wrap .i64 (i16 + 1))), h, Nat.lt_succ_self _, (fun i => i), ⟨(rE rfl <| rA <| rE rfl <| rA <| rE rfl <| rE rfl <| rX <| rX <| rW <| rA <| rN), (hE rfl <| hN), rfl, rfl, (roE rfl <| roN)⟩⟩
 ·obtain rfl := Qj h; exact (Frz.tuple' (.cons (Frz.agg' p5) p1))
def Xh (N : Nat) (width : Int) : Nat → Int → (List UInt8) → Int → Option (List UInt8)
 | 0, _, _, _ => none
 | n + 1, n8, out9, i10 =>
  cond (Q5 .lss i10 width)
  (cond (Nat.ble ([UInt8.ofNat (IntKind.wrap .u8 n8).toNat].length + out9.length) 4611686018427387904) (Xh N width n (Q48 .u64 n8 8) ([UInt8.ofNat (IntKind.wrap .u8 n8).toNat] ++ out9) (IntKind.wrap .i64 (i10 + 1))) none)
  (some out9)
def Zu (N : Nat) (n_0 : Int) (width : Int) : Option (List UInt8) :=
 Xh N width N n_0 [] 0
theorem Xk {N} {n_0} {width} {r} (h : Zu N n_0 width = some r) : X1 Tryz.prog G1 36 [.int .u64 n_0, .int .i64 width] (.str r) := by
 refine Q4 k36 ?_
 unfold Zu at h
 refine lpC (τ := Int × (List UInt8) × Int) (fun ⟨n8, out9, i10⟩ => (iW n8 :: iI width :: a2 (.any :: iS out9 :: iI i10 :: a8 (a4 (a2 ([])))) : List AV)) (fun ⟨_, _, _⟩ => ([] : List AObj)) (fun n0 ⟨n8, out9, i10⟩ => Xh N width n0 n8 out9 i10) (n_0, [], 0) h (fun i => i) ⟨(rE rfl <| rE rfl <| rW <| rA <| rE rfl <| rE rfl <| rX <| rV <| rW <| rN), (hN), rfl, rfl, (roN)⟩ fun n0 ⟨n8, out9, i10⟩ h => ?_
 simp only [Xh] at h
 rw [cX] at h
 apply iU h <;> intro h
 ·refine kU h fun h => ?_
  show Exists _
  exact ⟨(n0, (Q48 .u64 n8 8), ([UInt8.ofNat (IntKind.wrap .u8 n8).toNat] ++ out9), (IntKind.wrap .i64 (i10 + 1))), h, Nat.lt_succ_self _, (fun i => i), ⟨(rE rfl <| rE rfl <| rW <| rA <| rE rfl <| rE rfl <| rX <| rV <| rW <| rN), (hN), rfl, rfl, (roN)⟩⟩
 ·cases h; exact (.p _)
def Ym (N : Nat) (s_0 : List UInt8) : Nat → Int → Option (Bool)
 | 0, _ => none
 | n + 1, i10 =>
  cond (Q5 .lss i10 (s_0.length : Int))
  ((idx s_0 i10).bind fun b12 =>
  cond (Q5 .geq (b12.toNat : Int) 128)
  (some false)
  (Ym N s_0 n (IntKind.wrap .i64 (i10 + 1))))
  (some true)
def Qn (N : Nat) (s_0 : List UInt8) : Option (Bool) :=
 Ym N s_0 N 0
theorem Qs {N} {s_0} {r} (h : Qn N s_0 = some r) : X1 Tryz.prog G1 64 [.str s_0] (.bool r) := by
 refine Q4 k64 ?_
 unfold Qn at h
 refine lpC (τ := Int) (fun i10 => (iS s_0 :: .any :: .any :: iI i10 :: a8 (a2 ([])) : List AV)) (fun _ => ([] : List AObj)) (fun n0 i10 => Ym N s_0 n0 i10) (0) h (fun i => i) ⟨(rE rfl <| rW <| rE rfl <| rX <| rW <| rN), (hN), rfl, rfl, (roN)⟩ fun n0 i10 h => ?_
 simp only [Ym] at h
 rw [cX] at h
 apply iU h <;> intro h
 ·refine xB h fun b12 h => ?_
  apply iU h <;> intro h
  ·cases h; exact (.p _)
  ·show Exists _
   exact ⟨(n0, (IntKind.wrap .i64 (i10 + 1))), h, Nat.lt_succ_self _, (fun i => i), ⟨(rE rfl <| rW <| rE rfl <| rX <| rW <| rN), (hN), rfl, rfl, (roN)⟩⟩
 ·cases h; exact (.p _)
def Qz (_N : Nat) (kind : Int) : Option (Int) :=
 cond (Q5 .eql kind 2)
 (some 1)
 (cond (Q5 .eql kind 3)
 (some 8)
 (cond (Q5 .eql kind 4)
 (some 16)
 (cond (Q5 .eql kind 5)
 (some 32)
 (cond (Q5 .eql kind 11)
 (some 32)
 (cond (Q5 .eql kind 13)
 (some 32)
 (cond (Q5 .eql kind 16)
 (some 32)
 (cond (Q5 .eql kind 6)
 (some 64)
 (cond (Q5 .eql kind 12)
 (some 64)
 (cond (Q5 .eql kind 14)
 (some 64)
 (cond (Q5 .eql kind 17)
 (some 64)
 (cond (Q5 .eql kind 10)
 (some 64)
 (cond (Q5 .eql kind 7)
 (some (-8))
 (cond (Q5 .eql kind 8)
 (some (-16))
 (cond (Q5 .eql kind 9)
 (some (-32))
 (some 0)))))))))))))))
theorem Q2l {N} {kind} {r} (h : Qz N kind = some r) : X1 Tryz.prog G1 75 [.int .i64 kind] (.int .i64 r) := by
 refine Q4 k75 ?_
 unfold Qz at h
 rw [cX] at h
 apply iU h <;> intro h
 ·cases h; exact (.p _)
 ·apply iU h <;> intro h
  ·cases h; exact (.p _)
  ·apply iU h <;> intro h
   ·cases h; exact (.p _)
   ·refine ifO h (fun hc4 h => ?_) (fun hc4 h => ?_)
    ·refine ifT hc4 ?_
     cases h; exact (.p _)
    ·refine ifO h (fun hc5 h => ?_) (fun hc5 h => ?_)
     ·refine ifT hc5 ?_
      cases h; exact (.p _)
     ·refine ifO h (fun hc6 h => ?_) (fun hc6 h => ?_)
      ·refine ifT hc6 ?_
       cases h; exact (.p _)
      ·apply iU h <;> intro h
       ·cases h; exact (.p _)
       ·refine ifO h (fun hc8 h => ?_) (fun hc8 h => ?_)
        ·refine ifT hc8 ?_
         cases h; exact (.p _)
        ·refine ifO h (fun hc9 h => ?_) (fun hc9 h => ?_)
         ·refine ifT hc9 ?_
          cases h; exact (.p _)
         ·refine ifO h (fun hc10 h => ?_) (fun hc10 h => ?_)
          ·refine ifT hc10 ?_
           cases h; exact (.p _)
          ·refine ifO h (fun hc11 h => ?_) (fun hc11 h => ?_)
           ·refine ifT hc11 ?_
            cases h; exact (.p _)
           ·apply iU h <;> intro h
            ·cases h; exact (.p _)
            ·apply iU h <;> intro h
             ·cases h; exact (.p _)
             ·apply iU h <;> intro h
              ·cases h; exact (.p _)
              ·apply iU h <;> intro h
               ·cases h; exact (.p _)
               ·cases h; exact (.p _)
def V1 (_N : Nat) (n_0 : Int) : Option (Bool) :=
 cond (Q5 .leq n_0 1114111)
 (cond (Q5 .lss n_0 55296)
 (some true)
 (some (Q5 .gtr n_0 57343)))
 (some false)
theorem Q32 {N} {n_0} {r} (h : V1 N n_0 = some r) : X1 Tryz.prog G1 76 [.int .u64 n_0] (.bool r) := by
 refine Q4 k76 ?_
 unfold V1 at h
 rw [cX] at h
 apply iU h <;> intro h
 ·apply iU h <;> intro h
  ·cases h; exact (.p _)
  ·cases h; exact (.p _)
 ·cases h; exact (.p _)
def Zh (_N : Nat) (n_0 : Int) (bits : Int) : Option (Bool) :=
 cond (decide (0 ≤ (IntKind.wrap .u64 (bits - 1)))) (cond (Q5 .lss n_0 (Q07 .u64 1 (IntKind.wrap .u64 (bits - 1))))
 (some true)
 (some (Q5 .geq n_0 (IntKind.wrap .u64 (0 - (Q07 .u64 1 (IntKind.wrap .u64 (bits - 1)))))))) none
theorem Xl {N} {n_0} {bits} {r} (h : Zh N n_0 bits = some r) : X1 Tryz.prog G1 77 [.int .u64 n_0, .int .u64 bits] (.bool r) := by
 refine Q4 k77 ?_
 unfold Zh at h
 rw [cX] at h
 refine kU h fun h => ?_
 apply iU h <;> intro h
 ·cases h; exact (.p _)
 ·cases h; exact (.p _)
def Xi (N : Nat) (v : Q0) : Option (Bool) :=
 (Qz N v.Kind).bind fun v1 =>
 cond (Q5 .eql v.Kind 16)
 ((V1 N v.N').bind fun v4 =>
 some v4)
 (cond (Q5 .eql v1 0)
 (some (Q5 .eql v.N' 0))
 (cond (Q5 .lss v1 0)
 ((Zh N v.N' (IntKind.wrap .u64 (IntKind.wrap .i64 (0 - v1)))).bind fun v8 =>
 some v8)
 (cond (Q5 .eql v1 64)
 (some true)
 (cond (decide (0 ≤ (IntKind.wrap .u64 v1))) (some (Q5 .lss v.N' (Q07 .u64 1 (IntKind.wrap .u64 v1)))) none))))
theorem Jn {N} {v} {r} (h : Xi N v = some r) : X1 Tryz.prog G1 61 [.agg (Q0.cells v)] (.bool r) := by
 refine Q4 k61 ?_
 unfold Xi at h
 rw [cX] at h
 refine cP h Q2l p1 fun v1 h => ?_
 apply iU h <;> intro h
 ·refine cP h Q32 p1 fun v4 h => ?_
  cases h; exact (.p _)
 ·apply iU h <;> intro h
  ·cases h; exact (.p _)
  ·apply iU h <;> intro h
   ·refine cP h Xl p2 fun v8 h => ?_
    cases h; exact (.p _)
   ·apply iU h <;> intro h
    ·cases h; exact (.p _)
    ·refine kU h fun h => ?_
     cases h; exact (.p _)
def Xx (_N : Nat) (kind : Int) : Option (Bool) :=
 cond (Q5 .eql kind 15)
 (some true)
 (cond (Q5 .geq kind 18)
 (some (Q5 .leq kind 21))
 (some false))
theorem Jt {N} {kind} {r} (h : Xx N kind = some r) : X1 Tryz.prog G1 62 [.int .i64 kind] (.bool r) := by
 refine Q4 k62 ?_
 unfold Xx at h
 rw [cX] at h
 apply iU h <;> intro h
 ·cases h; exact (.p _)
 ·apply iU h <;> intro h
  ·cases h; exact (.p _)
  ·cases h; exact (.p _)
def Q8 (_N : Nat) (s_0 : List UInt8) (i : Int) (low : Int) (high : Int) : Option (Bool) :=
 cond (Q5 .lss i (s_0.length : Int))
 ((idx s_0 i).bind fun b2 =>
 cond (Q5 .geq (b2.toNat : Int) low)
 ((idx s_0 i).bind fun b5 =>
 some (Q5 .leq (b5.toNat : Int) high))
 (some false))
 (some false)
theorem Qe {N} {s_0} {i} {low} {high} {r} (h : Q8 N s_0 i low high = some r) : X1 Tryz.prog G1 85 [.str s_0, .int .i64 i, .int .u8 low, .int .u8 high] (.bool r) := by
 refine Q4 k85 ?_
 unfold Q8 at h
 rw [cX] at h
 apply iU h <;> intro h
 ·refine xB h fun b2 h => ?_
  apply iU h <;> intro h
  ·refine xB h fun b5 h => ?_
   cases h; exact (.p _)
  ·cases h; exact (.p _)
 ·cases h; exact (.p _)
def Zd (_N : Nat) (s139 : Bool) : Option (Int) :=
 cond s139
 (some 4)
 (some 0)
def Zp (N : Nat) (k4 : Bool → Option (Int)) (s_0 : List UInt8) (i : Int) (b1 : UInt8) (s170 : Bool) : Option (Int) :=
 cond s170
 (k4 s170)
 (cond (Q5 .eql (b1.toNat : Int) 244)
 ((Q8 N s_0 (IntKind.wrap .i64 (i + 1)) 128 143).bind fun v183 =>
 cond v183
 ((Q8 N s_0 (IntKind.wrap .i64 (i + 2)) 128 191).bind fun v186 =>
 cond v186
 ((Q8 N s_0 (IntKind.wrap .i64 (i + 3)) 128 191).bind fun v189 =>
 k4 v189)
 (k4 false))
 (k4 false))
 (k4 false))
def Yb (N : Nat) (k4 : Bool → Option (Int)) (s_0 : List UInt8) (i : Int) (b1 : UInt8) (s149 : Bool) : Option (Int) :=
 cond s149
 (k4 s149)
 (cond (Q5 .geq (b1.toNat : Int) 241)
 (cond (Q5 .leq (b1.toNat : Int) 243)
 ((Q8 N s_0 (IntKind.wrap .i64 (i + 1)) 128 191).bind fun v173 =>
 cond v173
 ((Q8 N s_0 (IntKind.wrap .i64 (i + 2)) 128 191).bind fun v176 =>
 cond v176
 ((Q8 N s_0 (IntKind.wrap .i64 (i + 3)) 128 191).bind fun v179 =>
 Zp N k4 s_0 i b1 v179)
 (Zp N k4 s_0 i b1 false))
 (Zp N k4 s_0 i b1 false))
 (Zp N k4 s_0 i b1 false))
 (Zp N k4 s_0 i b1 false))
def Zq (N : Nat) (s_0 : List UInt8) (i : Int) (b1 : UInt8) (s50 : Bool) : Option (Int) :=
 cond s50
 (some 3)
 (cond (Q5 .eql (b1.toNat : Int) 240)
 ((Q8 N s_0 (IntKind.wrap .i64 (i + 1)) 144 191).bind fun v151 =>
 cond v151
 ((Q8 N s_0 (IntKind.wrap .i64 (i + 2)) 128 191).bind fun v154 =>
 cond v154
 ((Q8 N s_0 (IntKind.wrap .i64 (i + 3)) 128 191).bind fun v157 =>
 Yb N (Zd N) s_0 i b1 v157)
 (Yb N (Zd N) s_0 i b1 false))
 (Yb N (Zd N) s_0 i b1 false))
 (Yb N (Zd N) s_0 i b1 false))
def X5 (N : Nat) (k1 : Bool → Option (Int)) (s_0 : List UInt8) (i : Int) (b1 : UInt8) (s71 : Bool) : Option (Int) :=
 cond s71
 (k1 s71)
 (cond (Q5 .geq (b1.toNat : Int) 225)
 (cond (Q5 .leq (b1.toNat : Int) 239)
 (cond (Q5 .neq (b1.toNat : Int) 237)
 ((Q8 N s_0 (IntKind.wrap .i64 (i + 1)) 128 191).bind fun v82 =>
 cond v82
 ((Q8 N s_0 (IntKind.wrap .i64 (i + 2)) 128 191).bind fun v85 =>
 k1 v85)
 (k1 false))
 (k1 false))
 (k1 false))
 (k1 false))
def X3 (N : Nat) (k1 : Bool → Option (Int)) (s_0 : List UInt8) (i : Int) (b1 : UInt8) (s57 : Bool) : Option (Int) :=
 cond s57
 (k1 s57)
 (cond (Q5 .eql (b1.toNat : Int) 237)
 ((Q8 N s_0 (IntKind.wrap .i64 (i + 1)) 128 159).bind fun v73 =>
 cond v73
 ((Q8 N s_0 (IntKind.wrap .i64 (i + 2)) 128 191).bind fun v76 =>
 X5 N k1 s_0 i b1 v76)
 (X5 N k1 s_0 i b1 false))
 (X5 N k1 s_0 i b1 false))
def X8 (N : Nat) (s_0 : List UInt8) (i : Int) (b1 : UInt8) (s8 : Bool) : Option (Int) :=
 cond s8
 (some 2)
 (cond (Q5 .eql (b1.toNat : Int) 224)
 ((Q8 N s_0 (IntKind.wrap .i64 (i + 1)) 160 191).bind fun v59 =>
 cond v59
 ((Q8 N s_0 (IntKind.wrap .i64 (i + 2)) 128 191).bind fun v62 =>
 X3 N (Zq N s_0 i b1) s_0 i b1 v62)
 (X3 N (Zq N s_0 i b1) s_0 i b1 false))
 (X3 N (Zq N s_0 i b1) s_0 i b1 false))
def V6 (N : Nat) (s_0 : List UInt8) (i : Int) : Option (Int) :=
 (idx s_0 i).bind fun b1 =>
 cond (Q5 .lss (b1.toNat : Int) 128)
 (some 1)
 (cond (Q5 .geq (b1.toNat : Int) 194)
 (cond (Q5 .leq (b1.toNat : Int) 223)
 ((Q8 N s_0 (IntKind.wrap .i64 (i + 1)) 128 191).bind fun v11 =>
 X8 N s_0 i b1 v11)
 (X8 N s_0 i b1 false))
 (X8 N s_0 i b1 false))
theorem Q3a {N} {s_0} {i} {r} (h : V6 N s_0 i = some r) : X1 Tryz.prog G1 78 [.str s_0, .int .i64 i] (.int .i64 r) := by
 refine Q4 k78 ?_
 unfold V6 at h
 rw [cX] at h
 refine xB h fun b1 h => ?_
 apply iU h <;> intro h
 ·cases h; exact (.p _)
 ·refine J4 (σ := Bool) (fun s8 => (iS s_0 :: iI i :: a2 (.any :: .p (.int .u8 (b1.toNat : Int)) :: a4 (a2 (.p (.bool s8) :: a16 (a16 (a16 (a16 (a16 (a16 (a16 (a16 ([]))))))))))) : List AV)) (fun _ => ([] : List AObj)) (fun s8 => X8 N s_0 i b1 s8 = some r) (fun _ _ => lb) ?_ ?_
  ·apply iU h <;> intro h
   ·apply iU h <;> intro h
    ·refine cP h Qe p4 fun v11 h => ?_
     show Exists _
     exact ⟨(v11), h, (fun i => i), ⟨(rE rfl <| rE rfl <| rW <| rA <| rE rfl <| rV <| rW <| rE rfl <| rX <| rX <| rX <| rX <| rX <| rX <| rX <| rX <| rX <| rX <| rX <| rX <| rX <| rX <| rX <| rX <| rN), (hN), rfl, rfl, (roN)⟩⟩
    ·show Exists _
     exact ⟨(false), h, (fun i => i), ⟨(rE rfl <| rE rfl <| rW <| rA <| rE rfl <| rV <| rW <| rE rfl <| rX <| rX <| rX <| rX <| rX <| rX <| rX <| rX <| rX <| rX <| rX <| rX <| rX <| rX <| rX <| rX <| rN), (hN), rfl, rfl, (roN)⟩⟩
   ·show Exists _
    exact ⟨(false), h, (fun i => i), ⟨(rE rfl <| rE rfl <| rW <| rA <| rE rfl <| rV <| rW <| rE rfl <| rX <| rX <| rX <| rX <| rX <| rX <| rX <| rX <| rX <| rX <| rX <| rX <| rX <| rX <| rX <| rX <| rN), (hN), rfl, rfl, (roN)⟩⟩
  rintro s8 h
  dsimp only [X8] at h
  rw [cX] at h
  apply iU h <;> intro h
  ·cases h; exact (.p _)
  ·refine J4 (σ := Bool) (fun s50 => (iS s_0 :: iI i :: a2 (.any :: .p (.int .u8 (b1.toNat : Int)) :: a16 (a2 (.any :: .p (.bool s50) :: a16 (a16 (a16 (a16 (a16 (a16 (a16 (a2 (.any :: []))))))))))) : List AV)) (fun _ => ([] : List AObj)) (fun s50 => Zq N s_0 i b1 s50 = some r) (fun _ _ => lb) ?_ ?_
   ·refine J4 (σ := Bool) (fun s57 => (iS s_0 :: iI i :: a2 (.any :: .p (.int .u8 (b1.toNat : Int)) :: a16 (a2 (.any :: .p (.bool s57) :: a16 (a16 (a16 (a16 (a16 (a16 (a16 (a2 (.any :: []))))))))))) : List AV)) (fun _ => ([] : List AObj)) (fun s57 => X3 N (Zq N s_0 i b1) s_0 i b1 s57 = some r) (fun _ _ => lb) ?_ ?_
    ·apply iU h <;> intro h
     ·refine cP h Qe p4 fun v59 h => ?_
      apply iU h <;> intro h
      ·refine cP h Qe p4 fun v62 h => ?_
       show Exists _
       exact ⟨(v62), h, (fun i => i), ⟨(rE rfl <| rE rfl <| rW <| rA <| rE rfl <| rX <| rX <| rW <| rA <| rE rfl <| rX <| rX <| rX <| rX <| rX <| rX <| rX <| rX <| rX <| rX <| rX <| rX <| rX <| rX <| rW <| rA <| rN), (hN), rfl, rfl, (roN)⟩⟩
      ·show Exists _
       exact ⟨(false), h, (fun i => i), ⟨(rE rfl <| rE rfl <| rW <| rA <| rE rfl <| rX <| rX <| rW <| rA <| rE rfl <| rX <| rX <| rX <| rX <| rX <| rX <| rX <| rX <| rX <| rX <| rX <| rX <| rX <| rX <| rW <| rA <| rN), (hN), rfl, rfl, (roN)⟩⟩
     ·show Exists _
      exact ⟨(false), h, (fun i => i), ⟨(rE rfl <| rE rfl <| rW <| rA <| rE rfl <| rX <| rX <| rW <| rA <| rE rfl <| rX <| rX <| rX <| rX <| rX <| rX <| rX <| rX <| rX <| rX <| rX <| rX <| rX <| rX <| rW <| rA <| rN), (hN), rfl, rfl, (roN)⟩⟩
    rintro s57 h
    dsimp only [X3] at h
    rw [cX] at h
    apply iU h <;> intro h
    ·show Exists _
     exact ⟨(s57), h, (fun i => i), ⟨(rE rfl <| rE rfl <| rW <| rA <| rE rfl <| rX <| rX <| rW <| rA <| rE rfl <| rX <| rX <| rX <| rX <| rX <| rX <| rX <| rX <| rX <| rX <| rX <| rX <| rX <| rX <| rW <| rA <| rN), (hN), rfl, rfl, (roN)⟩⟩
    ·refine J4 (σ := Bool) (fun s71 => (iS s_0 :: iI i :: a2 (.any :: .p (.int .u8 (b1.toNat : Int)) :: a16 (a2 (.any :: .p (.bool s71) :: a16 (a16 (a16 (a16 (a16 (a16 (a16 (a2 (.any :: []))))))))))) : List AV)) (fun _ => ([] : List AObj)) (fun s71 => X5 N (Zq N s_0 i b1) s_0 i b1 s71 = some r) (fun _ _ => lb) ?_ ?_
     ·apply iU h <;> intro h
      ·refine cP h Qe p4 fun v73 h => ?_
       apply iU h <;> intro h
       ·refine cP h Qe p4 fun v76 h => ?_
        show Exists _
        exact ⟨(v76), h, (fun i => i), ⟨(rE rfl <| rE rfl <| rW <| rA <| rE rfl <| rX <| rX <| rW <| rA <| rE rfl <| rX <| rX <| rX <| rX <| rX <| rX <| rX <| rX <| rX <| rX <| rX <| rX <| rX <| rX <| rW <| rA <| rN), (hN), rfl, rfl, (roN)⟩⟩
       ·show Exists _
        exact ⟨(false), h, (fun i => i), ⟨(rE rfl <| rE rfl <| rW <| rA <| rE rfl <| rX <| rX <| rW <| rA <| rE rfl <| rX <| rX <| rX <| rX <| rX <| rX <| rX <| rX <| rX <| rX <| rX <| rX <| rX <| rX <| rW <| rA <| rN), (hN), rfl, rfl, (roN)⟩⟩
      ·show Exists _
       exact ⟨(false), h, (fun i => i), ⟨(rE rfl <| rE rfl <| rW <| rA <| rE rfl <| rX <| rX <| rW <| rA <| rE rfl <| rX <| rX <| rX <| rX <| rX <| rX <| rX <| rX <| rX <| rX <| rX <| rX <| rX <| rX <| rW <| rA <| rN), (hN), rfl, rfl, (roN)⟩⟩
     rintro s71 h
     dsimp only [X5] at h
     rw [cX] at h
     apply iU h <;> intro h
     ·show Exists _
      exact ⟨(s71), h, (fun i => i), ⟨(rE rfl <| rE rfl <| rW <| rA <| rE rfl <| rX <| rX <| rW <| rA <| rE rfl <| rX <| rX <| rX <| rX <| rX <| rX <| rX <| rX <| rX <| rX <| rX <| rX <| rX <| rX <| rW <| rA <| rN), (hN), rfl, rfl, (roN)⟩⟩
     ·apply iU h <;> intro h
      ·apply iU h <;> intro h
       ·apply iU h <;> intro h
        ·refine cP h Qe p4 fun v82 h => ?_
         apply iU h <;> intro h
         ·refine cP h Qe p4 fun v85 h => ?_
          show Exists _
          exact ⟨(v85), h, (fun i => i), ⟨(rE rfl <| rE rfl <| rW <| rA <| rE rfl <| rX <| rX <| rW <| rA <| rE rfl <| rX <| rX <| rX <| rX <| rX <| rX <| rX <| rX <| rX <| rX <| rX <| rX <| rX <| rX <| rW <| rA <| rN), (hN), rfl, rfl, (roN)⟩⟩
         ·show Exists _
          exact ⟨(false), h, (fun i => i), ⟨(rE rfl <| rE rfl <| rW <| rA <| rE rfl <| rX <| rX <| rW <| rA <| rE rfl <| rX <| rX <| rX <| rX <| rX <| rX <| rX <| rX <| rX <| rX <| rX <| rX <| rX <| rX <| rW <| rA <| rN), (hN), rfl, rfl, (roN)⟩⟩
        ·show Exists _
         exact ⟨(false), h, (fun i => i), ⟨(rE rfl <| rE rfl <| rW <| rA <| rE rfl <| rX <| rX <| rW <| rA <| rE rfl <| rX <| rX <| rX <| rX <| rX <| rX <| rX <| rX <| rX <| rX <| rX <| rX <| rX <| rX <| rW <| rA <| rN), (hN), rfl, rfl, (roN)⟩⟩
       ·show Exists _
        exact ⟨(false), h, (fun i => i), ⟨(rE rfl <| rE rfl <| rW <| rA <| rE rfl <| rX <| rX <| rW <| rA <| rE rfl <| rX <| rX <| rX <| rX <| rX <| rX <| rX <| rX <| rX <| rX <| rX <| rX <| rX <| rX <| rW <| rA <| rN), (hN), rfl, rfl, (roN)⟩⟩
      ·show Exists _
       exact ⟨(false), h, (fun i => i), ⟨(rE rfl <| rE rfl <| rW <| rA <| rE rfl <| rX <| rX <| rW <| rA <| rE rfl <| rX <| rX <| rX <| rX <| rX <| rX <| rX <| rX <| rX <| rX <| rX <| rX <| rX <| rX <| rW <| rA <| rN), (hN), rfl, rfl, (roN)⟩⟩
   rintro s50 h
   dsimp only [Zq] at h
   rw [cX] at h
   apply iU h <;> intro h
   ·cases h; exact (.p _)
   ·refine J4 (σ := Bool) (fun s139 => (a16 (a16 (a16 (a16 (a8 (a4 (.p (.bool s139) :: a16 (a16 (a16 (a16 ([])))))))))) : List AV)) (fun _ => ([] : List AObj)) (fun s139 => Zd N s139 = some r) (fun _ _ => lb) ?_ ?_
    ·refine J4 (σ := Bool) (fun s149 => (iS s_0 :: iI i :: a2 (.any :: .p (.int .u8 (b1.toNat : Int)) :: a16 (a16 (a16 (a16 (a4 (a2 (.p (.bool s149) :: a16 (a16 (a16 (a16 ([]))))))))))) : List AV)) (fun _ => ([] : List AObj)) (fun s149 => Yb N (Zd N) s_0 i b1 s149 = some r) (fun _ _ => lb) ?_ ?_
     ·apply iU h <;> intro h
      ·refine cP h Qe p4 fun v151 h => ?_
       apply iU h <;> intro h
       ·refine cP h Qe p4 fun v154 h => ?_
        apply iU h <;> intro h
        ·refine cP h Qe p4 fun v157 h => ?_
         show Exists _
         exact ⟨(v157), h, (fun i => i), ⟨(rE rfl <| rE rfl <| rW <| rA <| rE rfl <| rX <| rX <| rX <| rX <| rX <| rX <| rX <| rX <| rV <| rW <| rE rfl <| rX <| rX <| rX <| rX <| rX <| rX <| rX <| rX <| rN), (hN), rfl, rfl, (roN)⟩⟩
        ·show Exists _
         exact ⟨(false), h, (fun i => i), ⟨(rE rfl <| rE rfl <| rW <| rA <| rE rfl <| rX <| rX <| rX <| rX <| rX <| rX <| rX <| rX <| rV <| rW <| rE rfl <| rX <| rX <| rX <| rX <| rX <| rX <| rX <| rX <| rN), (hN), rfl, rfl, (roN)⟩⟩
       ·show Exists _
        exact ⟨(false), h, (fun i => i), ⟨(rE rfl <| rE rfl <| rW <| rA <| rE rfl <| rX <| rX <| rX <| rX <| rX <| rX <| rX <| rX <| rV <| rW <| rE rfl <| rX <| rX <| rX <| rX <| rX <| rX <| rX <| rX <| rN), (hN), rfl, rfl, (roN)⟩⟩
      ·show Exists _
       exact ⟨(false), h, (fun i => i), ⟨(rE rfl <| rE rfl <| rW <| rA <| rE rfl <| rX <| rX <| rX <| rX <| rX <| rX <| rX <| rX <| rV <| rW <| rE rfl <| rX <| rX <| rX <| rX <| rX <| rX <| rX <| rX <| rN), (hN), rfl, rfl, (roN)⟩⟩
     rintro s149 h
     dsimp only [Yb] at h
     rw [cX] at h
     apply iU h <;> intro h
     ·show Exists _
      exact ⟨(s149), h, (fun i => i), ⟨(rX <| rX <| rX <| rX <| rX <| rX <| rX <| rX <| rX <| rV <| rE rfl <| rX <| rX <| rX <| rX <| rX <| rX <| rX <| rX <| rN), (hN), rfl, rfl, (roN)⟩⟩
     ·refine J4 (σ := Bool) (fun s170 => (iS s_0 :: iI i :: a2 (.any :: .p (.int .u8 (b1.toNat : Int)) :: a16 (a16 (a16 (a16 (a4 (a2 (.p (.bool s170) :: a16 (a16 (a16 (a16 ([]))))))))))) : List AV)) (fun _ => ([] : List AObj)) (fun s170 => Zp N (Zd N) s_0 i b1 s170 = some r) (fun _ _ => lb) ?_ ?_
      ·apply iU h <;> intro h
       ·apply iU h <;> intro h
        ·refine cP h Qe p4 fun v173 h => ?_
         apply iU h <;> intro h
         ·refine cP h Qe p4 fun v176 h => ?_
          apply iU h <;> intro h
          ·refine cP h Qe p4 fun v179 h => ?_
           show Exists _
           exact ⟨(v179), h, (fun i => i), ⟨(rE rfl <| rE rfl <| rW <| rA <| rE rfl <| rX <| rX <| rX <| rX <| rX <| rX <| rX <| rX <| rV <| rW <| rE rfl <| rX <| rX <| rX <| rX <| rX <| rX <| rX <| rX <| rN), (hN), rfl, rfl, (roN)⟩⟩
          ·show Exists _
           exact ⟨(false), h, (fun i => i), ⟨(rE rfl <| rE rfl <| rW <| rA <| rE rfl <| rX <| rX <| rX <| rX <| rX <| rX <| rX <| rX <| rV <| rW <| rE rfl <| rX <| rX <| rX <| rX <| rX <| rX <| rX <| rX <| rN), (hN), rfl, rfl, (roN)⟩⟩
         ·show Exists _
          exact ⟨(false), h, (fun i => i), ⟨(rE rfl <| rE rfl <| rW <| rA <| rE rfl <| rX <| rX <| rX <| rX <| rX <| rX <| rX <| rX <| rV <| rW <| rE rfl <| rX <| rX <| rX <| rX <| rX <| rX <| rX <| rX <| rN), (hN), rfl, rfl, (roN)⟩⟩
        ·show Exists _
         exact ⟨(false), h, (fun i => i), ⟨(rE rfl <| rE rfl <| rW <| rA <| rE rfl <| rX <| rX <| rX <| rX <| rX <| rX <| rX <| rX <| rV <| rW <| rE rfl <| rX <| rX <| rX <| rX <| rX <| rX <| rX <| rX <| rN), (hN), rfl, rfl, (roN)⟩⟩
       ·show Exists _
        exact ⟨(false), h, (fun i => i), ⟨(rE rfl <| rE rfl <| rW <| rA <| rE rfl <| rX <| rX <| rX <| rX <| rX <| rX <| rX <| rX <| rV <| rW <| rE rfl <| rX <| rX <| rX <| rX <| rX <| rX <| rX <| rX <| rN), (hN), rfl, rfl, (roN)⟩⟩
      rintro s170 h
      dsimp only [Zp] at h
      rw [cX] at h
      apply iU h <;> intro h
      ·show Exists _
       exact ⟨(s170), h, (fun i => i), ⟨(rX <| rX <| rX <| rX <| rX <| rX <| rX <| rX <| rX <| rV <| rE rfl <| rX <| rX <| rX <| rX <| rX <| rX <| rX <| rX <| rN), (hN), rfl, rfl, (roN)⟩⟩
      ·apply iU h <;> intro h
       ·refine cP h Qe p4 fun v183 h => ?_
        apply iU h <;> intro h
        ·refine cP h Qe p4 fun v186 h => ?_
         apply iU h <;> intro h
         ·refine cP h Qe p4 fun v189 h => ?_
          show Exists _
          exact ⟨(v189), h, (fun i => i), ⟨(rX <| rX <| rX <| rX <| rX <| rX <| rX <| rX <| rX <| rV <| rE rfl <| rX <| rX <| rX <| rX <| rX <| rX <| rX <| rX <| rN), (hN), rfl, rfl, (roN)⟩⟩
         ·show Exists _
          exact ⟨(false), h, (fun i => i), ⟨(rX <| rX <| rX <| rX <| rX <| rX <| rX <| rX <| rX <| rV <| rE rfl <| rX <| rX <| rX <| rX <| rX <| rX <| rX <| rX <| rN), (hN), rfl, rfl, (roN)⟩⟩
        ·show Exists _
         exact ⟨(false), h, (fun i => i), ⟨(rX <| rX <| rX <| rX <| rX <| rX <| rX <| rX <| rX <| rV <| rE rfl <| rX <| rX <| rX <| rX <| rX <| rX <| rX <| rX <| rN), (hN), rfl, rfl, (roN)⟩⟩
       ·show Exists _
        exact ⟨(false), h, (fun i => i), ⟨(rX <| rX <| rX <| rX <| rX <| rX <| rX <| rX <| rX <| rV <| rE rfl <| rX <| rX <| rX <| rX <| rX <| rX <| rX <| rX <| rN), (hN), rfl, rfl, (roN)⟩⟩
    rintro s139 h
    dsimp only [Zd] at h
    apply iU h <;> intro h
    ·cases h; exact (.p _)
    ·cases h; exact (.p _)
def X9 (N : Nat) (s_0 : List UInt8) : Nat → Int → Option (Bool)
 | 0, _ => none
 | n + 1, i10 =>
  cond (Q5 .lss i10 (s_0.length : Int))
  ((V6 N s_0 i10).bind fun v12 =>
  cond (Q5 .eql v12 0)
  (some false)
  (X9 N s_0 n (IntKind.wrap .i64 (i10 + v12))))
  (some true)
def Zk (N : Nat) (s_0 : List UInt8) : Option (Bool) :=
 X9 N s_0 N 0
theorem X6 {N} {s_0} {r} (h : Zk N s_0 = some r) : X1 Tryz.prog G1 63 [.str s_0] (.bool r) := by
 refine Q4 k63 ?_
 unfold Zk at h
 refine lpC (τ := Int) (fun i10 => (iS s_0 :: .any :: .any :: iI i10 :: a8 (a4 (.any :: [])) : List AV)) (fun _ => ([] : List AObj)) (fun n0 i10 => X9 N s_0 n0 i10) (0) h (fun i => i) ⟨(rE rfl <| rW <| rE rfl <| rX <| rV <| rA <| rN), (hN), rfl, rfl, (roN)⟩ fun n0 i10 h => ?_
 simp only [X9] at h
 rw [cX] at h
 apply iU h <;> intro h
 ·refine cP h Q3a p2 fun v12 h => ?_
  apply iU h <;> intro h
  ·cases h; exact (.p _)
  ·show Exists _
   exact ⟨(n0, (IntKind.wrap .i64 (i10 + v12))), h, Nat.lt_succ_self _, (fun i => i), ⟨(rE rfl <| rW <| rE rfl <| rX <| rV <| rA <| rN), (hN), rfl, rfl, (roN)⟩⟩
 ·cases h; exact (.p _)
def Yu (N : Nat) (v : Q0) : Option (Int) :=
 cond (Q5 .eql v.Kind 15)
 (cond (Q5 .lss v.Kind 1)
 (some 8)
 (cond (Q5 .gtr v.Kind 21)
 (some 8)
 ((Xi N v).bind fun v4 =>
 cond (!v4)
 (some 2)
 (cond (Q5 .gtr ((Q0.rows v.Items).length : Int) 0)
 (some 2)
 ((Xx N v.Kind).bind fun v8 =>
 cond (!v8)
 (cond (Q8a .neq v.Text [])
 (some 2)
 (cond (Q5 .neq (v.Text.length : Int) 16)
 (some 2)
 (cond (Q5 .gtr (v.Text.length : Int) 1048576)
 (some 4)
 (cond (Q5 .eql v.Kind 20)
 ((Zk N v.Text).bind fun v15 =>
 cond (!v15)
 (some 6)
 (cond (Q5 .eql v.Kind 21)
 ((Qn N v.Text).bind fun v19 =>
 cond (!v19)
 (some 6)
 (some 0))
 (some 0)))
 (cond (Q5 .eql v.Kind 21)
 ((Qn N v.Text).bind fun v23 =>
 cond (!v23)
 (some 6)
 (some 0))
 (some 0))))))
 (cond (Q5 .neq (v.Text.length : Int) 16)
 (some 2)
 (cond (Q5 .gtr (v.Text.length : Int) 1048576)
 (some 4)
 (cond (Q5 .eql v.Kind 20)
 ((Zk N v.Text).bind fun v29 =>
 cond (!v29)
 (some 6)
 (cond (Q5 .eql v.Kind 21)
 ((Qn N v.Text).bind fun v33 =>
 cond (!v33)
 (some 6)
 (some 0))
 (some 0)))
 (cond (Q5 .eql v.Kind 21)
 ((Qn N v.Text).bind fun v37 =>
 cond (!v37)
 (some 6)
 (some 0))
 (some 0))))))))))
 (cond (Q5 .lss v.Kind 1)
 (some 8)
 (cond (Q5 .gtr v.Kind 21)
 (some 8)
 ((Xi N v).bind fun v42 =>
 cond (!v42)
 (some 2)
 (cond (Q5 .gtr ((Q0.rows v.Items).length : Int) 0)
 (some 2)
 ((Xx N v.Kind).bind fun v46 =>
 cond (!v46)
 (cond (Q8a .neq v.Text [])
 (some 2)
 (cond (Q5 .eql v.Kind 18)
 (cond (Q5 .neq (v.Text.length : Int) 16)
 (some 2)
 (cond (Q5 .gtr (v.Text.length : Int) 1048576)
 (some 4)
 (cond (Q5 .eql v.Kind 20)
 ((Zk N v.Text).bind fun v54 =>
 cond (!v54)
 (some 6)
 (cond (Q5 .eql v.Kind 21)
 ((Qn N v.Text).bind fun v58 =>
 cond (!v58)
 (some 6)
 (some 0))
 (some 0)))
 (cond (Q5 .eql v.Kind 21)
 ((Qn N v.Text).bind fun v62 =>
 cond (!v62)
 (some 6)
 (some 0))
 (some 0)))))
 (cond (Q5 .gtr (v.Text.length : Int) 1048576)
 (some 4)
 (cond (Q5 .eql v.Kind 20)
 ((Zk N v.Text).bind fun v67 =>
 cond (!v67)
 (some 6)
 (cond (Q5 .eql v.Kind 21)
 ((Qn N v.Text).bind fun v71 =>
 cond (!v71)
 (some 6)
 (some 0))
 (some 0)))
 (cond (Q5 .eql v.Kind 21)
 ((Qn N v.Text).bind fun v75 =>
 cond (!v75)
 (some 6)
 (some 0))
 (some 0))))))
 (cond (Q5 .eql v.Kind 18)
 (cond (Q5 .neq (v.Text.length : Int) 16)
 (some 2)
 (cond (Q5 .gtr (v.Text.length : Int) 1048576)
 (some 4)
 (cond (Q5 .eql v.Kind 20)
 ((Zk N v.Text).bind fun v82 =>
 cond (!v82)
 (some 6)
 (cond (Q5 .eql v.Kind 21)
 ((Qn N v.Text).bind fun v86 =>
 cond (!v86)
 (some 6)
 (some 0))
 (some 0)))
 (cond (Q5 .eql v.Kind 21)
 ((Qn N v.Text).bind fun v90 =>
 cond (!v90)
 (some 6)
 (some 0))
 (some 0)))))
 (cond (Q5 .gtr (v.Text.length : Int) 1048576)
 (some 4)
 (cond (Q5 .eql v.Kind 20)
 ((Zk N v.Text).bind fun v95 =>
 cond (!v95)
 (some 6)
 (cond (Q5 .eql v.Kind 21)
 ((Qn N v.Text).bind fun v99 =>
 cond (!v99)
 (some 6)
 (some 0))
 (some 0)))
 (cond (Q5 .eql v.Kind 21)
 ((Qn N v.Text).bind fun v103 =>
 cond (!v103)
 (some 6)
 (some 0))
 (some 0))))))))))
theorem U6 {N} {v} {r} (h : Yu N v = some r) : X1 Tryz.prog G1 51 [.agg (Q0.cells v)] (.int .i64 r) := by
 refine Q4 k51 ?_
 unfold Yu at h
 rw [cX, cY] at h
 apply iU h <;> intro h
 ·apply iU h <;> intro h
  ·cases h; exact (.p _)
  ·apply iU h <;> intro h
   ·cases h; exact (.p _)
   ·refine cP h Jn (.cons q4 .nil) fun v4 h => ?_
    apply iU h <;> intro h
    ·cases h; exact (.p _)
    ·apply iU h <;> intro h
     ·cases h; exact (.p _)
     ·refine cP h Jt p1 fun v8 h => ?_
      apply iU h <;> intro h
      ·apply iU h <;> intro h
       ·cases h; exact (.p _)
       ·apply iU h <;> intro h
        ·cases h; exact (.p _)
        ·apply iU h <;> intro h
         ·cases h; exact (.p _)
         ·apply iU h <;> intro h
          ·refine cP h X6 p1 fun v15 h => ?_
           apply iU h <;> intro h
           ·cases h; exact (.p _)
           ·apply iU h <;> intro h
            ·refine cP h Qs p1 fun v19 h => ?_
             apply iU h <;> intro h
             ·cases h; exact (.p _)
             ·cases h; exact (.p _)
            ·cases h; exact (.p _)
          ·apply iU h <;> intro h
           ·refine cP h Qs p1 fun v23 h => ?_
            apply iU h <;> intro h
            ·cases h; exact (.p _)
            ·cases h; exact (.p _)
           ·cases h; exact (.p _)
      ·apply iU h <;> intro h
       ·cases h; exact (.p _)
       ·apply iU h <;> intro h
        ·cases h; exact (.p _)
        ·apply iU h <;> intro h
         ·refine cP h X6 p1 fun v29 h => ?_
          apply iU h <;> intro h
          ·cases h; exact (.p _)
          ·apply iU h <;> intro h
           ·refine cP h Qs p1 fun v33 h => ?_
            apply iU h <;> intro h
            ·cases h; exact (.p _)
            ·cases h; exact (.p _)
           ·cases h; exact (.p _)
         ·apply iU h <;> intro h
          ·refine cP h Qs p1 fun v37 h => ?_
           apply iU h <;> intro h
           ·cases h; exact (.p _)
           ·cases h; exact (.p _)
          ·cases h; exact (.p _)
 ·apply iU h <;> intro h
  ·cases h; exact (.p _)
  ·apply iU h <;> intro h
   ·cases h; exact (.p _)
   ·refine cP h Jn (.cons q4 .nil) fun v42 h => ?_
    apply iU h <;> intro h
    ·cases h; exact (.p _)
    ·apply iU h <;> intro h
     ·cases h; exact (.p _)
     ·refine cP h Jt p1 fun v46 h => ?_
      apply iU h <;> intro h
      ·apply iU h <;> intro h
       ·cases h; exact (.p _)
       ·apply iU h <;> intro h
        ·apply iU h <;> intro h
         ·cases h; exact (.p _)
         ·apply iU h <;> intro h
          ·cases h; exact (.p _)
          ·apply iU h <;> intro h
           ·refine cP h X6 p1 fun v54 h => ?_
            apply iU h <;> intro h
            ·cases h; exact (.p _)
            ·apply iU h <;> intro h
             ·refine cP h Qs p1 fun v58 h => ?_
              apply iU h <;> intro h
              ·cases h; exact (.p _)
              ·cases h; exact (.p _)
             ·cases h; exact (.p _)
           ·apply iU h <;> intro h
            ·refine cP h Qs p1 fun v62 h => ?_
             apply iU h <;> intro h
             ·cases h; exact (.p _)
             ·cases h; exact (.p _)
            ·cases h; exact (.p _)
        ·apply iU h <;> intro h
         ·cases h; exact (.p _)
         ·apply iU h <;> intro h
          ·refine cP h X6 p1 fun v67 h => ?_
           apply iU h <;> intro h
           ·cases h; exact (.p _)
           ·apply iU h <;> intro h
            ·refine cP h Qs p1 fun v71 h => ?_
             apply iU h <;> intro h
             ·cases h; exact (.p _)
             ·cases h; exact (.p _)
            ·cases h; exact (.p _)
          ·apply iU h <;> intro h
           ·refine cP h Qs p1 fun v75 h => ?_
            apply iU h <;> intro h
            ·cases h; exact (.p _)
            ·cases h; exact (.p _)
           ·cases h; exact (.p _)
      ·apply iU h <;> intro h
       ·apply iU h <;> intro h
        ·cases h; exact (.p _)
        ·apply iU h <;> intro h
         ·cases h; exact (.p _)
         ·apply iU h <;> intro h
          ·refine cP h X6 p1 fun v82 h => ?_
           apply iU h <;> intro h
           ·cases h; exact (.p _)
           ·apply iU h <;> intro h
            ·refine cP h Qs p1 fun v86 h => ?_
             apply iU h <;> intro h
             ·cases h; exact (.p _)
             ·cases h; exact (.p _)
            ·cases h; exact (.p _)
          ·apply iU h <;> intro h
           ·refine cP h Qs p1 fun v90 h => ?_
            apply iU h <;> intro h
            ·cases h; exact (.p _)
            ·cases h; exact (.p _)
           ·cases h; exact (.p _)
       ·apply iU h <;> intro h
        ·cases h; exact (.p _)
        ·apply iU h <;> intro h
         ·refine cP h X6 p1 fun v95 h => ?_
          apply iU h <;> intro h
          ·cases h; exact (.p _)
          ·apply iU h <;> intro h
           ·refine cP h Qs p1 fun v99 h => ?_
            apply iU h <;> intro h
            ·cases h; exact (.p _)
            ·cases h; exact (.p _)
           ·cases h; exact (.p _)
         ·apply iU h <;> intro h
          ·refine cP h Qs p1 fun v103 h => ?_
           apply iU h <;> intro h
           ·cases h; exact (.p _)
           ·cases h; exact (.p _)
          ·cases h; exact (.p _)
def W6 (N : Nat) (code : Int) (v : Q0) : Option (Bool) :=
 (Xe N code).bind fun v1 =>
 cond (!v1.2)
 (some false)
 (cond (Q5 .neq v1.1.Kind v.Kind)
 (some false)
 ((Yu N v).bind fun v5 =>
 cond (Q5 .neq v5 0)
 (some false)
 (cond (Q5 .eql code 65)
 (some (Q5 .eql v.N' 1))
 (cond (Q5 .eql v1.1.Width 0)
 (some (Q5 .eql v.N' 0))
 (cond v1.1.Sized
 (cond (Q5 .eql v1.1.Width 1)
 (some (Q5 .lss (v.Text.length : Int) 256))
 (cond (Q5 .eql code 82)
 (some (Q5 .lss v.N' 256))
 (cond (Q5 .eql code 83)
 (some (Q5 .lss v.N' 256))
 (cond (Q5 .eql code 84)
 ((Zh N v.N' 8).bind fun v15 =>
 some v15)
 (cond (Q5 .eql code 85)
 ((Zh N v.N' 8).bind fun v18 =>
 some v18)
 (some true))))))
 (cond (Q5 .eql code 82)
 (some (Q5 .lss v.N' 256))
 (cond (Q5 .eql code 83)
 (some (Q5 .lss v.N' 256))
 (cond (Q5 .eql code 84)
 ((Zh N v.N' 8).bind fun v23 =>
 some v23)
 (cond (Q5 .eql code 85)
 ((Zh N v.N' 8).bind fun v26 =>
 some v26)
 (some true))))))))))
theorem Gd {N} {code} {v} {r} (h : W6 N code v = some r) : X1 Tryz.prog G1 80 [.int .i64 code, .agg (Q0.cells v)] (.bool r) := by
 refine Q4 k80 ?_
 unfold W6 at h
 rw [cX] at h
 refine cP h Vu p1 fun v1 h => ?_
 apply iU h <;> intro h
 ·cases h; exact (.p _)
 ·apply iU h <;> intro h
  ·cases h; exact (.p _)
  ·refine cP h U6 (.cons q4 .nil) fun v5 h => ?_
   apply iU h <;> intro h
   ·cases h; exact (.p _)
   ·apply iU h <;> intro h
    ·cases h; exact (.p _)
    ·apply iU h <;> intro h
     ·cases h; exact (.p _)
     ·apply iU h <;> intro h
      ·apply iU h <;> intro h
       ·cases h; exact (.p _)
       ·apply iU h <;> intro h
        ·cases h; exact (.p _)
        ·apply iU h <;> intro h
         ·cases h; exact (.p _)
         ·apply iU h <;> intro h
          ·refine cP h Xl p2 fun v15 h => ?_
           cases h; exact (.p _)
          ·apply iU h <;> intro h
           ·refine cP h Xl p2 fun v18 h => ?_
            cases h; exact (.p _)
           ·cases h; exact (.p _)
      ·apply iU h <;> intro h
       ·cases h; exact (.p _)
       ·apply iU h <;> intro h
        ·cases h; exact (.p _)
        ·apply iU h <;> intro h
         ·refine cP h Xl p2 fun v23 h => ?_
          cases h; exact (.p _)
         ·apply iU h <;> intro h
          ·refine cP h Xl p2 fun v26 h => ?_
           cases h; exact (.p _)
          ·cases h; exact (.p _)
def Vl (N : Nat) (code : Int) (v : Q0) : Option ((List UInt8) × Int) :=
 (Yu N v).bind fun v1 =>
 cond (Q5 .neq v1 0)
 (some ([], v1))
 ((W6 N code v).bind fun v4 =>
 cond (!v4)
 (some ([], 2))
 ((Xe N code).bind fun v7 =>
 cond v7.1.Sized
 ((Zu N (IntKind.wrap .u64 (v.Text.length : Int)) v7.1.Width).bind fun v10 =>
 cond (Nat.ble (v10.length + v.Text.length) 4611686018427387904) (some ((v10 ++ v.Text), 0)) none)
 (cond (Q5 .eql v7.1.Width 16)
 (some (v.Text, 0))
 ((Zu N v.N' v7.1.Width).bind fun v14 =>
 some (v14, 0)))))
theorem Q3p {N} {code} {v} {r} (h : Vl N code v = some r) : X1 Tryz.prog G1 69 [.int .i64 code, .agg (Q0.cells v)] (.tuple [.str r.1, .int .i64 r.2]) := by
 refine Q4 k69 ?_
 unfold Vl at h
 rw [cX] at h
 refine cP h U6 (.cons q4 .nil) fun v1 h => ?_
 apply iU h <;> intro h
 ·obtain rfl := Qj h; exact u2
 ·refine cP h Gd (.cons (.p _) (.cons q4 .nil)) fun v4 h => ?_
  apply iU h <;> intro h
  ·obtain rfl := Qj h; exact u2
  ·refine cP h Vu p1 fun v7 h => ?_
   apply iU h <;> intro h
   ·refine Qa ?_
    refine cD h Xk p2 fun v10 h => ?_
    refine kU h fun h => ?_
    obtain rfl := Qj h; exact u2
   ·apply iU h <;> intro h
    ·obtain rfl := Qj h; exact u2
    ·refine cP h Xk p2 fun v14 h => ?_
     obtain rfl := Qj h; exact u2
def Xd (N : Nat) (code : Int) (v : Q0) (in_2 : List UInt8) : Option (List UInt8) :=
 (Xe N code).bind fun v1 =>
 cond (!v1.1.Items)
 ((Vl N code v).bind fun v4 =>
 some v4.1)
 (cond (!v1.1.Sized)
 (some [])
 ((Zu N (IntKind.wrap .u64 (IntKind.wrap .i64 ((in_2.length : Int) + v1.1.Width))) v1.1.Width).bind fun v7 =>
 (Zu N (IntKind.wrap .u64 ((Q0.rows v.Items).length : Int)) v1.1.Width).bind fun v9 =>
 cond (Nat.ble (v7.length + v9.length) 4611686018427387904) (cond (Nat.ble ((v7 ++ v9).length + in_2.length) 4611686018427387904) (some ((v7 ++ v9) ++ in_2)) none) none))
theorem Ge {N} {code} {v} {in_2} {r} (h : Xd N code v in_2 = some r) : X1 Tryz.prog G1 56 [.int .i64 code, .agg (Q0.cells v), .str in_2] (.str r) := by
 refine Q4 k56 ?_
 unfold Xd at h
 refine cP h Vu p1 fun v1 h => ?_
 apply iU h <;> intro h
 ·refine cP h Q3p (.cons (.p _) (.cons q4 .nil)) fun v4 h => ?_
  cases h; exact (.p _)
 ·apply iU h <;> intro h
  ·cases h; exact (.p _)
  ·refine Qa ?_
   refine cD h Xk p2 fun v7 h => ?_
   refine cD h Xk p2 fun v9 h => ?_
   refine kU h fun h => ?_
   refine kU h fun h => ?_
   cases h; exact (.p _)
def Y2 (N : Nat) (kind : Int) (v1 : List Qm) : Nat → Int → (List Int) → Option (List Int)
 | 0, _, _ => none
 | n + 1, i18, l19 =>
  cond (Q5 .lss i18 ((Qi Qm.cells v1).length : Int))
  ((idx v1 i18).bind fun y21 =>
  cond (Q5 .eql y21.Kind kind)
  ((idx v1 i18).bind fun y24 =>
  cond (Nat.ble ((l19.length + 1 + 4096) * 8) 17592186044416) (Y2 N kind v1 n (IntKind.wrap .i64 (i18 + 1)) (l19 ++ [y24.Code])) none)
  (Y2 N kind v1 n (IntKind.wrap .i64 (i18 + 1)) l19))
  (some l19)
def Wm (N : Nat) (kind : Int) : Option (List Int) :=
 (Xt N).bind fun v1 =>
 Y2 N kind v1 N 0 []
theorem Q1u {N} {kind} {r} (h : Wm N kind = some r) : X1 Tryz.prog G1 67 [.int .i64 kind] (.slice 1 (Qi (cI .i64) r)) := by
 refine Q4 k67 ?_
 unfold Wm at h
 refine cP h Ju p0 fun v1 h => ?_
 refine lpC (τ := Int × (List Int)) (fun ⟨i18, l19⟩ => (iI kind :: .any :: .any :: .slice 1 0 0 l19.length :: .p (.slice 5 (Qi Qm.cells v1)) :: iI i18 :: a16 (a4 (a2 (.any :: []))) : List AV)) (fun ⟨_, l19⟩ => (.cells (Y0 (cI .i64) l19) :: [] : List AObj)) (fun n0 ⟨i18, l19⟩ => Y2 N kind v1 n0 i18 l19) (0, []) h (fun i => i) ⟨(rE rfl <| rW <| rS <| rE rfl <| rE rfl <| rX <| rX <| rV <| rW <| rA <| rN), (hV lb <| hN), rfl, rfl, (roE (Q2 _ _ _) <| roN)⟩ fun n0 ⟨i18, l19⟩ h => ?_
 simp only [Y2] at h
 rw [cX] at h
 apply iU h <;> intro h
 ·refine xR h fun y21 h => ?_
  apply iU h <;> intro h
  ·refine xR h fun y24 h => ?_
   obtain ⟨hk26, h⟩ := Q08 h
   refine G9 (Wj (c := (cI .i64)) (e := 1) (fun _ => rfl) (by first | (simp; done) | (simp [Qi]; done)) hk26) ?_
   refine Ub (c := (cI .i64)) [y24.Code] rfl ?_
   show Exists _
   exact ⟨(n0, (IntKind.wrap .i64 (i18 + 1)), (l19 ++ [y24.Code])), h, Nat.lt_succ_self _, (rho [2]), ⟨(rE rfl <| rW <| rL (by first | (simp; done) | (simp [Qi]; done)) rfl <| rE rfl <| rE rfl <| rX <| rX <| rV <| rW <| rA <| rN), (hO rfl <| hN), rfl, rfl, (roE (Q2 _ _ _) <| roN)⟩⟩
  ·show Exists _
   exact ⟨(n0, (IntKind.wrap .i64 (i18 + 1)), l19), h, Nat.lt_succ_self _, (fun i => i), ⟨(rE rfl <| rW <| rE rfl <| rE rfl <| rE rfl <| rX <| rX <| rV <| rW <| rA <| rN), (hO rfl <| hN), rfl, rfl, (roE (Q2 _ _ _) <| roN)⟩⟩
 ·obtain rfl := Qj h; exact (frz_own (c := (cI .i64)) (l := (l19 : List Int)) (fun _ => rfl) rfl trivial (by first | (simp; done) | (simp [Qi]; done)))
def Xc (N : Nat) (code : Int) (v : Q0) (in_2 : List UInt8) : Option (Bool) :=
 (Xe N code).bind fun v1 =>
 cond (!v1.1.Items)
 ((W6 N code v).bind fun v4 =>
 some v4)
 (cond (Q5 .eql v1.1.Width 0)
 (some (Q5 .eql ((Q0.rows v.Items).length : Int) 0))
 (cond (Q5 .eql v1.1.Width 4)
 (some true)
 (cond (Q5 .lss ((Q0.rows v.Items).length : Int) 256)
 (some (Q5 .lss (IntKind.wrap .i64 ((in_2.length : Int) + 1)) 256))
 (some false))))
theorem Q36 {N} {code} {v} {in_2} {r} (h : Xc N code v in_2 = some r) : X1 Tryz.prog G1 68 [.int .i64 code, .agg (Q0.cells v), .str in_2] (.bool r) := by
 refine Q4 k68 ?_
 unfold Xc at h
 rw [cX] at h
 refine cP h Vu p1 fun v1 h => ?_
 apply iU h <;> intro h
 ·refine cP h Gd (.cons (.p _) (.cons q4 .nil)) fun v4 h => ?_
  cases h; exact (.p _)
 ·apply iU h <;> intro h
  ·cases h; exact (.p _)
  ·apply iU h <;> intro h
   ·cases h; exact (.p _)
   ·apply iU h <;> intro h
    ·cases h; exact (.p _)
    ·cases h; exact (.p _)
def Yn (N : Nat) (k0 : Int → Option (Int)) (items : List Q0) (in_2 : List (List UInt8)) (v1 : List Int) (i78 : Int) : Nat → Bool → Int → Option (Int)
 | 0, _, _ => none
 | n + 1, all101, Qlo =>
  cond (Q5 .lss Qlo ((Q0.rows items).length : Int))
  (cond all101
  ((idx v1 i78).bind fun y105 =>
  (idx items Qlo).bind fun y107 =>
  (idx in_2 Qlo).bind fun y109 =>
  (Xc N y105 y107 y109).bind fun v111 =>
  Yn N k0 items in_2 v1 i78 n v111 (IntKind.wrap .i64 (Qlo + 1)))
  (k0 (IntKind.wrap .i64 (i78 + 1))))
  (cond all101
  ((idx v1 i78).bind fun y114 =>
  some y114)
  (k0 (IntKind.wrap .i64 (i78 + 1))))
def Zi (N : Nat) (items : List Q0) (in_2 : List (List UInt8)) (v1 : List Int) : Nat → Int → Option (Int)
 | 0, _ => none
 | n + 1, i78 =>
  cond (Q5 .lss i78 ((Qi (cI .i64) v1).length : Int))
  (Yn N (Zi N items in_2 v1 n) items in_2 v1 i78 N true 0)
  (some 0)
def Xv (N : Nat) (kind : Int) (items : List Q0) (in_2 : List (List UInt8)) : Option (Int) :=
 (Wm N kind).bind fun v1 =>
 Zi N items in_2 v1 N 0
theorem Jw {N} {kind} {items} {in_2} {r} (h : Xv N kind items in_2 = some r) : X1 Tryz.prog G1 55 [.int .i64 kind, .slice 4 (Q0.rows items), .slice 1 (Qi cS in_2)] (.int .i64 r) := by
 refine Q4 k55 ?_
 unfold Xv at h
 refine cP h Q1u p1 fun v1 h => ?_
 refine lpC (τ := Int) (fun i78 => (.any :: .p (.slice 4 (Q0.rows items)) :: .p (.slice 1 (Qi cS in_2)) :: a4 (.p (.slice 1 (Qi (cI .i64) v1)) :: iI i78 :: a16 (a16 (a4 (.any :: [])))) : List AV)) (fun _ => ([] : List AObj)) (fun n0 i78 => Zi N items in_2 v1 n0 i78) (0) h (fun i => i) ⟨(rA <| rE rfl <| rE rfl <| rV <| rE rfl <| rE rfl <| rX <| rX <| rX <| rX <| rV <| rA <| rN), (hN), rfl, rfl, (roN)⟩ fun n0 i78 h => ?_
 simp only [Zi] at h
 rw [cX] at h
 apply iU h <;> intro h
 ·refine lpC (τ := Bool × Int) (fun ⟨all101, Qlo⟩ => (.any :: .p (.slice 4 (Q0.rows items)) :: .p (.slice 1 (Qi cS in_2)) :: a4 (.p (.slice 1 (Qi (cI .i64) v1)) :: iI i78 :: .p (.bool all101) :: iI Qlo :: a16 (a16 (a2 (.any :: [])))) : List AV)) (fun ⟨_, _⟩ => ([] : List AObj)) (fun n1 ⟨all101, Qlo⟩ => Yn N (Zi N items in_2 v1 n0) items in_2 v1 i78 n1 all101 Qlo) (true, 0) h (fun i => i) ⟨(rA <| rE rfl <| rE rfl <| rV <| rE rfl <| rE rfl <| rE rfl <| rE rfl <| rX <| rX <| rX <| rX <| rW <| rA <| rN), (hN), rfl, rfl, (roN)⟩ fun n1 ⟨all101, Qlo⟩ h => ?_
  simp only [Yn] at h
  rw [cX] at h
  apply iU h <;> intro h
  ·refine ifO h (fun hc104 h => ?_) (fun hc104 h => ?_)
   ·refine Qa ?_
    refine xR h fun y105 h => ?_
    refine Q0.xR h fun y107 h => ?_
    refine xR h fun y109 h => ?_
    refine cD h Q36 (.cons (.p _) (.cons q4 p1)) fun v111 h => ?_
    show Exists _
    exact ⟨(n1, v111, (IntKind.wrap .i64 (Qlo + 1))), h, Nat.lt_succ_self _, (fun i => i), ⟨(rA <| rE rfl <| rE rfl <| rV <| rE rfl <| rE rfl <| rE rfl <| rE rfl <| rX <| rX <| rX <| rX <| rW <| rA <| rN), (hN), rfl, rfl, (roN)⟩⟩
   ·refine ifF hc104 ?_
    show Exists _
    exact ⟨(n0, (IntKind.wrap .i64 (i78 + 1))), h, Nat.lt_succ_self _, (fun i => i), ⟨(rA <| rE rfl <| rE rfl <| rV <| rE rfl <| rE rfl <| rX <| rX <| rX <| rX <| rV <| rA <| rN), (hN), rfl, rfl, (roN)⟩⟩
  ·apply iU h <;> intro h
   ·refine xR h fun y114 h => ?_
    cases h; exact (.p _)
   ·show Exists _
    exact ⟨(n0, (IntKind.wrap .i64 (i78 + 1))), h, Nat.lt_succ_self _, (fun i => i), ⟨(rA <| rE rfl <| rE rfl <| rV <| rE rfl <| rE rfl <| rX <| rX <| rX <| rX <| rV <| rA <| rN), (hN), rfl, rfl, (roN)⟩⟩
 ·cases h; exact (.p _)
def Wp (rx1 : Q0 → Option (List UInt8)) (rv1 : Q0 → Option (List UInt8)) (rw1 : (List Q0) → Option (List (List UInt8))) (N : Nat) (v : Q0) : Option (List UInt8) :=
 cond (Q5 .eql v.Kind 25)
 ((idx v.Items 0).bind fun y2 =>
 (rx1 y2).bind fun v4 =>
 cond (Nat.ble ([0].length + v4.length) 4611686018427387904) ((idx v.Items 1).bind fun y7 =>
 (rx1 y7).bind fun v9 =>
 cond (Nat.ble (([0] ++ v4).length + v9.length) 4611686018427387904) (some (([0] ++ v4) ++ v9)) none) none)
 ((rv1 v).bind fun v12 =>
 (Xv N v.Kind [v] [v12]).bind fun v14 =>
 (Xd N v14 v v12).bind fun v16 =>
 cond (Nat.ble ([UInt8.ofNat (IntKind.wrap .u8 v14).toNat].length + v16.length) 4611686018427387904) (some ([UInt8.ofNat (IntKind.wrap .u8 v14).toNat] ++ v16)) none)
theorem Q1w {rx1 : Q0 → Option (List UInt8)} {rv1 : Q0 → Option (List UInt8)} {rw1 : (List Q0) → Option (List (List UInt8))} (hx3 : ∀ {v} {r}, rx1 v = some r → X1 Tryz.prog G1 48 [.agg (Q0.cells v)] (.str r)) (hv3 : ∀ {v} {r}, rv1 v = some r → X1 Tryz.prog G1 54 [.agg (Q0.cells v)] (.str r)) (hw3 : ∀ {l} {r}, rw1 l = some r → X1 Tryz.prog G1 66 [.slice 4 (Q0.rows l)] (.slice 1 (Qi cS r))) {N} {v} {r} (h : Wp rx1 rv1 rw1 N v = some r) : X1 Tryz.prog G1 48 [.agg (Q0.cells v)] (.str r) := by
 refine Q4 k48 ?_
 unfold Wp at h
 rw [cX] at h
 apply iU h <;> intro h
 ·refine Qa ?_
  refine Q0.xR h fun y2 h => ?_
  refine cD h hx3 (.cons q4 .nil) fun v4 h => ?_
  refine kU h fun h => ?_
  refine Q0.xR h fun y7 h => ?_
  refine cD h hx3 (.cons q4 .nil) fun v9 h => ?_
  refine kU h fun h => ?_
  cases h; exact (.p _)
 ·refine cP h hv3 (.cons q4 .nil) fun v12 h => ?_
  refine cK h Jw (.cons (.p _) (.cons (Q0.frz_own (l := [v]) rfl trivial (by first | (simp; done) | (simp [Qi]; done))) (.cons (frz_own (c := cS) (l := ([v12] : List (List UInt8))) (fun _ => rfl) rfl trivial (by first | (simp; done) | (simp [Qi]; done))) .nil))) fun v14 h => ?_
  refine Qa ?_
  refine cD h Ge (.cons (.p _) (.cons q4 p1)) fun v16 h => ?_
  refine kU h fun h => ?_
  cases h; exact (.p _)
def Yi (N : Nat) (v : Q0) (v2 : List (List UInt8)) (v4 : Int) : Nat → (List UInt8) → Int → Option (List UInt8)
 | 0, _, _ => none
 | n + 1, out24, i25 =>
  cond (Q5 .lss i25 ((Q0.rows v.Items).length : Int))
  ((idx v.Items i25).bind fun y27 =>
  (idx v2 i25).bind fun y29 =>
  (Xd N v4 y27 y29).bind fun v31 =>
  cond (Nat.ble (out24.length + v31.length) 4611686018427387904) (Yi N v v2 v4 n (out24 ++ v31) (IntKind.wrap .i64 (i25 + 1))) none)
  (some out24)
def Zt (rx1 : Q0 → Option (List UInt8)) (N : Nat) (v : Q0) : Nat → (List UInt8) → Int → Option (List UInt8)
 | 0, _, _ => none
 | n + 1, out50, i51 =>
  cond (Q5 .lss i51 ((Q0.rows v.Items).length : Int))
  (cond (Q5 .neq v.Kind 25)
  ((idx v.Items i51).bind fun y54 =>
  (rx1 y54).bind fun v56 =>
  cond (Nat.ble (out50.length + v56.length) 4611686018427387904) (Zt rx1 N v n (out50 ++ v56) (IntKind.wrap .i64 (i51 + 1))) none)
  (some out50))
  (some out50)
def Wb (rx1 : Q0 → Option (List UInt8)) (rv1 : Q0 → Option (List UInt8)) (rw1 : (List Q0) → Option (List (List UInt8))) (N : Nat) (v : Q0) : Option (List UInt8) :=
 cond (Q5 .eql v.Kind 24)
 ((rw1 v.Items).bind fun v2 =>
 (Xv N (IntKind.wrap .i64 v.N') v.Items v2).bind fun v4 =>
 Yi N v v2 v4 N [UInt8.ofNat (IntKind.wrap .u8 v4).toNat] 0)
 (Zt rx1 N v N [] 0)
theorem Q1l {rx1 : Q0 → Option (List UInt8)} {rv1 : Q0 → Option (List UInt8)} {rw1 : (List Q0) → Option (List (List UInt8))} (hx3 : ∀ {v} {r}, rx1 v = some r → X1 Tryz.prog G1 48 [.agg (Q0.cells v)] (.str r)) (hv3 : ∀ {v} {r}, rv1 v = some r → X1 Tryz.prog G1 54 [.agg (Q0.cells v)] (.str r)) (hw3 : ∀ {l} {r}, rw1 l = some r → X1 Tryz.prog G1 66 [.slice 4 (Q0.rows l)] (.slice 1 (Qi cS r))) {N} {v} {r} (h : Wb rx1 rv1 rw1 N v = some r) : X1 Tryz.prog G1 54 [.agg (Q0.cells v)] (.str r) := by
 refine Q4 k54 ?_
 unfold Wb at h
 rw [cX] at h
 apply iU h <;> intro h
 ·refine cP h hw3 p1 fun v2 h => ?_
  refine cP h Jw p3 fun v4 h => ?_
  refine lpC (τ := (List UInt8) × Int) (fun ⟨out24, i25⟩ => (.any :: .ptr 0 0 :: .any :: iS out24 :: .p (.slice 1 (Qi cS v2)) :: iI v4 :: iI i25 :: a16 (a16 (a16 (a8 (a4 ([]))))) : List AV)) (fun ⟨_, _⟩ => (.cells (iI v.Kind :: iW v.N' :: iS v.Text :: .p (.slice 4 (Q0.rows v.Items)) :: []) :: .cells (.p (.int .u8 (IntKind.wrap .u8 v4)) :: []) :: [] : List AObj)) (fun n0 ⟨out24, i25⟩ => Yi N v v2 v4 n0 out24 i25) ([UInt8.ofNat (IntKind.wrap .u8 v4).toNat], 0) h (fun i => i) ⟨(rA <| rE rfl <| rA <| rE rfl <| rE rfl <| rE rfl <| rE rfl <| rX <| rX <| rX <| rX <| rX <| rX <| rX <| rV <| rN), (hE rfl <| hE rfl <| hN), rfl, rfl, (roE rfl <| roE rfl <| roN)⟩ fun n0 ⟨out24, i25⟩ h => ?_
  simp only [Yi] at h
  rw [cX] at h
  apply iU h <;> intro h
  ·refine Qa ?_
   refine Q0.xR h fun y27 h => ?_
   refine xR h fun y29 h => ?_
   refine cD h Ge (.cons (.p _) (.cons q4 p1)) fun v31 h => ?_
   refine kU h fun h => ?_
   show Exists _
   exact ⟨(n0, (out24 ++ v31), (IntKind.wrap .i64 (i25 + 1))), h, Nat.lt_succ_self _, (fun i => i), ⟨(rA <| rE rfl <| rA <| rE rfl <| rE rfl <| rE rfl <| rE rfl <| rX <| rX <| rX <| rX <| rX <| rX <| rX <| rV <| rN), (hE rfl <| hE rfl <| hN), rfl, rfl, (roE rfl <| roE rfl <| roN)⟩⟩
  ·cases h; exact (.p _)
 ·refine lpC (τ := (List UInt8) × Int) (fun ⟨out50, i51⟩ => (.any :: .ptr 0 0 :: .any :: iS out50 :: a2 (.any :: iI i51 :: a16 (a16 (a16 (a8 (a2 (.any :: [])))))) : List AV)) (fun ⟨_, _⟩ => (.cells (iI v.Kind :: iW v.N' :: iS v.Text :: .p (.slice 4 (Q0.rows v.Items)) :: []) :: [] : List AObj)) (fun n1 ⟨out50, i51⟩ => Zt rx1 N v n1 out50 i51) ([], 0) h (fun i => i) ⟨(rA <| rE rfl <| rA <| rE rfl <| rW <| rA <| rE rfl <| rX <| rX <| rX <| rX <| rX <| rX <| rX <| rW <| rA <| rN), (hE rfl <| hN), rfl, rfl, (roE rfl <| roN)⟩ fun n1 ⟨out50, i51⟩ h => ?_
  simp only [Zt] at h
  rw [cX] at h
  apply iU h <;> intro h
  ·apply iU h <;> intro h
   ·refine Q0.xR h fun y54 h => ?_
    refine cP h hx3 (.cons q4 .nil) fun v56 h => ?_
    refine kU h fun h => ?_
    show Exists _
    exact ⟨(n1, (out50 ++ v56), (IntKind.wrap .i64 (i51 + 1))), h, Nat.lt_succ_self _, (fun i => i), ⟨(rA <| rE rfl <| rA <| rE rfl <| rW <| rA <| rE rfl <| rX <| rX <| rX <| rX <| rX <| rX <| rX <| rW <| rA <| rN), (hE rfl <| hN), rfl, rfl, (roE rfl <| roN)⟩⟩
   ·cases h; exact (.p _)
  ·cases h; exact (.p _)
def Yl (rv1 : Q0 → Option (List UInt8)) (N : Nat) (l : List Q0) : Nat → Int → (List (List UInt8)) → Option (List (List UInt8))
 | 0, _, _ => none
 | n + 1, i14, l15 =>
  cond (Q5 .lss i14 ((Q0.rows l).length : Int))
  ((idx l i14).bind fun y17 =>
  (rv1 y17).bind fun v19 =>
  cond (Nat.ble ((l15.length + 1 + 4096) * 16) 17592186044416) (Yl rv1 N l n (IntKind.wrap .i64 (i14 + 1)) (l15 ++ [v19])) none)
  (some l15)
def Uz (rx1 : Q0 → Option (List UInt8)) (rv1 : Q0 → Option (List UInt8)) (rw1 : (List Q0) → Option (List (List UInt8))) (N : Nat) (l : List Q0) : Option (List (List UInt8)) :=
 Yl rv1 N l N 0 []
theorem Q1t {rx1 : Q0 → Option (List UInt8)} {rv1 : Q0 → Option (List UInt8)} {rw1 : (List Q0) → Option (List (List UInt8))} (hx3 : ∀ {v} {r}, rx1 v = some r → X1 Tryz.prog G1 48 [.agg (Q0.cells v)] (.str r)) (hv3 : ∀ {v} {r}, rv1 v = some r → X1 Tryz.prog G1 54 [.agg (Q0.cells v)] (.str r)) (hw3 : ∀ {l} {r}, rw1 l = some r → X1 Tryz.prog G1 66 [.slice 4 (Q0.rows l)] (.slice 1 (Qi cS r))) {N} {l} {r} (h : Uz rx1 rv1 rw1 N l = some r) : X1 Tryz.prog G1 66 [.slice 4 (Q0.rows l)] (.slice 1 (Qi cS r)) := by
 refine Q4 k66 ?_
 unfold Uz at h
 refine lpC (τ := Int × (List (List UInt8))) (fun ⟨i14, l15⟩ => (.p (.slice 4 (Q0.rows l)) :: .any :: .any :: .slice 1 0 0 l15.length :: iI i14 :: a8 (a4 (a2 (.any :: []))) : List AV)) (fun ⟨_, l15⟩ => (.cells (Y0 cS l15) :: [] : List AObj)) (fun n0 ⟨i14, l15⟩ => Yl rv1 N l n0 i14 l15) (0, []) h (fun i => i) ⟨(rE rfl <| rW <| rS <| rE rfl <| rX <| rV <| rW <| rA <| rN), (hV lb <| hN), rfl, rfl, (roE (Q2 _ _ _) <| roN)⟩ fun n0 ⟨i14, l15⟩ h => ?_
 simp only [Yl] at h
 rw [cX] at h
 apply iU h <;> intro h
 ·refine Q0.xR h fun y17 h => ?_
  refine cP h hv3 (.cons q4 .nil) fun v19 h => ?_
  obtain ⟨hk21, h⟩ := Q08 h
  refine G9 (Wj (c := cS) (e := 1) (fun _ => rfl) (by first | (simp; done) | (simp [Qi]; done)) hk21) ?_
  refine Ub (c := cS) [v19] rfl ?_
  show Exists _
  exact ⟨(n0, (IntKind.wrap .i64 (i14 + 1)), (l15 ++ [v19])), h, Nat.lt_succ_self _, (rho [2]), ⟨(rE rfl <| rW <| rL (by first | (simp; done) | (simp [Qi]; done)) rfl <| rE rfl <| rX <| rV <| rW <| rA <| rN), (hO rfl <| hN), rfl, rfl, (roE (Q2 _ _ _) <| roN)⟩⟩
 ·obtain rfl := Qj h; exact (frz_own (c := cS) (l := (l15 : List (List UInt8))) (fun _ => rfl) rfl trivial (by first | (simp; done) | (simp [Qi]; done)))
def Qh : Nat → (Q0 → Option (List UInt8)) × (Q0 → Option (List UInt8)) × ((List Q0) → Option (List (List UInt8)))
 | 0 => (fun _ => none, fun _ => none, fun _ => none)
 | N + 1 => (Wp ((Qh N).1) ((Qh N).2.1) ((Qh N).2.2) N, Wb ((Qh N).1) ((Qh N).2.1) ((Qh N).2.2) N, Uz ((Qh N).1) ((Qh N).2.1) ((Qh N).2.2) N)
def X0 (N : Nat) : Q0 → Option (List UInt8) := (Qh N).1
def Xg (N : Nat) : Q0 → Option (List UInt8) := (Qh N).2.1
def Uy (N : Nat) : (List Q0) → Option (List (List UInt8)) := (Qh N).2.2
theorem Q2g : ∀ N, (∀ {v : Q0} {r : List UInt8}, (Qh N).1 v = some r → X1 Tryz.prog G1 48 [.agg (Q0.cells v)] (.str r)) ∧ (∀ {v : Q0} {r : List UInt8}, (Qh N).2.1 v = some r → X1 Tryz.prog G1 54 [.agg (Q0.cells v)] (.str r)) ∧ (∀ {l : List Q0} {r : List (List UInt8)}, (Qh N).2.2 l = some r → X1 Tryz.prog G1 66 [.slice 4 (Q0.rows l)] (.slice 1 (Qi cS r))) := by
 intro N
 induction N with
 | zero => exact ⟨(fun h => by simp [Qh] at h), (fun h => by simp [Qh] at h), (fun h => by simp [Qh] at h)⟩
 | succ N ih => exact ⟨(fun h => Q1w (N := N) (fun h => ih.1 h) (fun h => ih.2.1 h) (fun h => ih.2.2 h) h), (fun h => Q1l (N := N) (fun h => ih.1 h) (fun h => ih.2.1 h) (fun h => ih.2.2 h) h), (fun h => Q1t (N := N) (fun h => ih.1 h) (fun h => ih.2.1 h) (fun h => ih.2.2 h) h)⟩
theorem Q1q {N : Nat} {v : Q0} {r : List UInt8} (h : X0 N v = some r) : X1 Tryz.prog G1 48 [.agg (Q0.cells v)] (.str r) := (Q2g N).1 h
def Zr (rv : Q0 → Option (Q0)) (N : Nat) (v : Q0) : Nat → Int → (List Q0) → Option (Q0)
 | 0, _, _ => none
 | n + 1, i14, l15 =>
  cond (Q5 .lss i14 ((Q0.rows v.Items).length : Int))
  ((idx v.Items i14).bind fun y17 =>
  (rv y17).bind fun v19 =>
  cond (Nat.ble ((l15.length + 1 + 4096) * 56) 17592186044416) (Zr rv N v n (IntKind.wrap .i64 (i14 + 1)) (l15 ++ [v19])) none)
  (some (⟨v.Kind, v.N', v.Text, l15⟩ : Q0))
def Va (rv : Q0 → Option (Q0)) (N : Nat) (v : Q0) : Option (Q0) :=
 Zr rv N v N 0 []
theorem Q2p {rv : Q0 → Option (Q0)} (hx2 : ∀ {v} {r}, rv v = some r → X1 Tryz.prog G1 37 [.agg (Q0.cells v)] (.agg (Q0.cells r))) {N} {v} {r} (h : Va rv N v = some r) : X1 Tryz.prog G1 37 [.agg (Q0.cells v)] (.agg (Q0.cells r)) := by
 refine Q4 k37 ?_
 unfold Va at h
 refine lpC (τ := Int × (List Q0)) (fun ⟨i14, _⟩ => (.any :: .ptr 0 0 :: .ptr 1 0 :: .ptr 2 0 :: iI i14 :: a16 (a8 (a2 ([]))) : List AV)) (fun ⟨_, l15⟩ => (.cells (iI v.Kind :: iW v.N' :: iS v.Text :: .p (.slice 4 (Q0.rows v.Items)) :: []) :: .cells (iI 0 :: iW 0 :: iS [] :: .p .nilSlice :: []) :: .cells (iI v.Kind :: iW v.N' :: iS v.Text :: .slice 4 3 0 l15.length :: []) :: .cells (Y0 Q0.cells l15) :: [] : List AObj)) (fun n0 ⟨i14, l15⟩ => Zr rv N v n0 i14 l15) (0, []) h (fun i => i) ⟨(rA <| rE rfl <| rE rfl <| rE rfl <| rE rfl <| rX <| rX <| rX <| rW <| rN), (hE rfl <| hE rfl <| hC rfl (rE rfl <| rE rfl <| rE rfl <| rS <| rN) <| hV lb <| hN), rfl, rfl, (roE rfl <| roE rfl <| roE rfl <| roE (Q2 _ _ _) <| roN)⟩ fun n0 ⟨i14, l15⟩ h => ?_
 simp only [Zr] at h
 rw [cX] at h
 apply iU h <;> intro h
 ·refine Qa ?_
  refine Q0.xR h fun y17 h => ?_
  refine cD h hx2 (.cons q4 .nil) fun v19 h => ?_
  obtain ⟨hk21, h⟩ := Q08 h
  refine G9 (Wj (c := Q0.cells) (e := 4) (fun _ => rfl) (by first | (simp; done) | (simp [Qi]; done)) hk21) ?_
  refine Ub (c := Q0.cells) [v19] rfl ?_
  show Exists _
  exact ⟨(n0, (IntKind.wrap .i64 (i14 + 1)), (l15 ++ [v19])), h, Nat.lt_succ_self _, (rho [0, 1, 2, 5]), ⟨(rA <| rE rfl <| rE rfl <| rE rfl <| rE rfl <| rX <| rX <| rX <| rW <| rN), (hE rfl <| hE rfl <| hC rfl (rE rfl <| rE rfl <| rE rfl <| rL (by first | (simp; done) | (simp [Qi]; done)) rfl <| rN) <| hO rfl <| hN), rfl, rfl, (roE rfl <| roE rfl <| roE rfl <| roE (Q2 _ _ _) <| roN)⟩⟩
 ·obtain rfl := Qj h; exact (Frz.agg' (.cons (.p _) (.cons (.p _) (.cons (.p _) (.cons (Q0.frz_own (l := l15) rfl trivial (by first | (simp; done) | (simp [Qi]; done))) .nil)))))
def Yj : Nat → Q0 → Option (Q0)
 | 0 => fun _ => none
 | N + 1 => Va (Yj N) N
theorem Q3c {N} {v} {r} (h : Yj N v = some r) : X1 Tryz.prog G1 37 [.agg (Q0.cells v)] (.agg (Q0.cells r)) := by
 induction N generalizing v r with
 | zero => simp [Yj] at h
 | succ N ih => exact Q2p (fun h => ih h) h
theorem Q1z {rv : Q0 → Option (Q0)} (hx2 : ∀ {v} {r}, rv v = some r → X1 Tryz.prog G1 37 [.agg (Q0.cells v)] (.agg (Q0.cells r))) {N} {v} {r} (h : Va rv N v = some r) : GC Tryz.prog G1 37 (.p (.agg (Q0.cells v)) :: []) [] (.agg [.p (.int .i64 r.Kind), .p (.int .u64 r.N'), .p (.str r.Text), .slice 4 0 0 r.Items.length]) (.cells (Y0 Q0.cells r.Items) :: []) := by
 refine Q2o k37 (Nat.le_of_ble_eq_true rfl) ?_
 unfold Va at h
 refine lpC (τ := Int × (List Q0)) (fun ⟨i14, _⟩ => (.any :: .ptr 0 0 :: .ptr 1 0 :: .ptr 2 0 :: iI i14 :: a16 (a8 (a2 ([]))) : List AV)) (fun ⟨_, l15⟩ => (.cells (iI v.Kind :: iW v.N' :: iS v.Text :: .p (.slice 4 (Q0.rows v.Items)) :: []) :: .cells (iI 0 :: iW 0 :: iS [] :: .p .nilSlice :: []) :: .cells (iI v.Kind :: iW v.N' :: iS v.Text :: .slice 4 3 0 l15.length :: []) :: .cells (Y0 Q0.cells l15) :: [] : List AObj)) (fun n0 ⟨i14, l15⟩ => Zr rv N v n0 i14 l15) (0, []) h (fun i => i) ⟨(rA <| rE rfl <| rE rfl <| rE rfl <| rE rfl <| rX <| rX <| rX <| rW <| rN), (hE rfl <| hE rfl <| hC rfl (rE rfl <| rE rfl <| rE rfl <| rS <| rN) <| hV lb <| hN), rfl, rfl, (roE rfl <| roE rfl <| roE rfl <| roE (Q2 _ _ _) <| roN)⟩ fun n0 ⟨i14, l15⟩ h => ?_
 simp only [Zr] at h
 rw [cX] at h
 apply iU h <;> intro h
 ·refine Qa ?_
  refine Q0.xR h fun y17 h => ?_
  refine cD h hx2 (.cons q4 .nil) fun v19 h => ?_
  obtain ⟨hk21, h⟩ := Q08 h
  refine G9 (Wj (c := Q0.cells) (e := 4) (fun _ => rfl) (by first | (simp; done) | (simp [Qi]; done)) hk21) ?_
  refine Ub (c := Q0.cells) [v19] rfl ?_
  show Exists _
  exact ⟨(n0, (IntKind.wrap .i64 (i14 + 1)), (l15 ++ [v19])), h, Nat.lt_succ_self _, (rho [0, 1, 2, 5]), ⟨(rA <| rE rfl <| rE rfl <| rE rfl <| rE rfl <| rX <| rX <| rX <| rW <| rN), (hE rfl <| hE rfl <| hC rfl (rE rfl <| rE rfl <| rE rfl <| rL (by first | (simp; done) | (simp [Qi]; done)) rfl <| rN) <| hO rfl <| hN), rfl, rfl, (roE rfl <| roE rfl <| roE rfl <| roE (Q2 _ _ _) <| roN)⟩⟩
 ·obtain rfl := Qj h
  show Exists _
  exact ⟨(rho [3]), ⟨(rG (rE rfl <| rE rfl <| rE rfl <| rE rfl <| rN) <| rN), (hO rfl <| hN), rfl, rfl, (roE (Q2 _ _ _) <| roN)⟩⟩
theorem Q2c {N} {v} {r} (h : Yj N v = some r) : GC Tryz.prog G1 37 (.p (.agg (Q0.cells v)) :: []) [] (.agg [.p (.int .i64 r.Kind), .p (.int .u64 r.N'), .p (.str r.Text), .slice 4 0 0 r.Items.length]) (.cells (Y0 Q0.cells r.Items) :: []) := by
 cases N with
 | zero => simp [Yj] at h
 | succ N => exact Q1z (fun h => Q3c h) h
def X2 (ry1 : Q0 → Option (Q0)) (N : Nat) (v : Q0) (v1 : Q0) (c22 : Int) : Nat → Int → (List Q0) → Option (Q0)
 | 0, _, _ => none
 | n + 1, i45, l46 =>
  cond (Q5 .lss i45 ((Q0.rows v.Items).length : Int))
  ((idx v.Items i45).bind fun y48 =>
  (ry1 y48).bind fun v50 =>
  (idx (l46 : List Q0) i45).bind fun y52 =>
  X2 ry1 N v v1 c22 n (IntKind.wrap .i64 (i45 + 1)) ((l46 : List Q0).set (Int.toNat i45) v50))
  (some (⟨v1.Kind, c22, v1.Text, l46⟩ : Q0))
def Zs (ry1 : Q0 → Option (Q0)) (N : Nat) (v : Q0) (v1 : Q0) (c22 : Int) : Option (Q0) :=
 X2 ry1 N v v1 c22 N 0 v1.Items
def X7 (_N : Nat) (k2 : Int → Option (Q0)) (c9 : Int) (s25 : Bool) : Option (Q0) :=
 cond s25
 (k2 9221120237041090560)
 (k2 c9)
def Yf (ry1 : Q0 → Option (Q0)) (N : Nat) (v : Q0) (v1 : Q0) (c9 : Int) : Option (Q0) :=
 cond (Q5 .eql v.Kind 12)
 (cond (Q5 .eql (Q0w .u64 v.N' 9218868437227405312) 9218868437227405312)
 (X7 N (Zs ry1 N v v1) c9 (Q5 .neq (Q0w .u64 v.N' 4503599627370495) 0))
 (X7 N (Zs ry1 N v v1) c9 false))
 (X7 N (Zs ry1 N v v1) c9 false)
def X4 (_N : Nat) (k0 : Int → Option (Q0)) (v1 : Q0) (s12 : Bool) : Option (Q0) :=
 cond s12
 (k0 2143289344)
 (k0 v1.N')
def V7 (ry1 : Q0 → Option (Q0)) (N : Nat) (v : Q0) : Option (Q0) :=
 (Yj N v).bind fun v1 =>
 cond (Q5 .eql v.Kind 11)
 (cond (Q5 .eql (Q0w .u64 v.N' 2139095040) 2139095040)
 (X4 N (Yf ry1 N v v1) v1 (Q5 .neq (Q0w .u64 v.N' 8388607) 0))
 (X4 N (Yf ry1 N v v1) v1 false))
 (X4 N (Yf ry1 N v v1) v1 false)
theorem Q3g {ry1 : Q0 → Option (Q0)} (hy3 : ∀ {v} {r}, ry1 v = some r → X1 Tryz.prog G1 25 [.agg (Q0.cells v)] (.agg (Q0.cells r))) {N} {v} {r} (h : V7 ry1 N v = some r) : X1 Tryz.prog G1 25 [.agg (Q0.cells v)] (.agg (Q0.cells r)) := by
 refine Q4 k25 ?_
 unfold V7 at h
 rw [cX] at h
 refine cG h Q2c fun v1 h => ?_
 refine ⟨fun i => i, (.cells (iI v.Kind :: iW v.N' :: iS v.Text :: .p (.slice 4 (Q0.rows v.Items)) :: []) :: .cells (iI 0 :: iW 0 :: iS [] :: .p .nilSlice :: []) :: .cells (Y0 Q0.cells v1.Items) :: []), .agg [iI v1.Kind, iW v1.N', iS v1.Text, .slice 4 2 0 v1.Items.length], ⟨(rF q4 <| rN), hN, rfl, rfl, roN, rfl, (fK rfl rfl <| fK rfl rfl <| fO 0 rfl rfl rfl <| fN), rfl⟩, ?_⟩
 refine J4 (σ := Int) (fun _ => (.any :: .ptr 0 0 :: .ptr 1 0 :: .ptr 3 0 :: a16 (a16 (a16 (a4 (.any :: [])))) : List AV)) (fun c9 => (.cells (iI v.Kind :: iW v.N' :: iS v.Text :: .p (.slice 4 (Q0.rows v.Items)) :: []) :: .cells (iI 0 :: iW 0 :: iS [] :: .p .nilSlice :: []) :: .cells (Y0 Q0.cells v1.Items) :: .cells (iI v1.Kind :: iW c9 :: iS v1.Text :: .slice 4 2 0 v1.Items.length :: []) :: [] : List AObj)) (fun c9 => Yf ry1 N v v1 c9 = some r) (fun _ _ => lb) ?_ ?_
 ·refine J4 (σ := Bool) (fun s12 => (.any :: .ptr 0 0 :: .ptr 1 0 :: .ptr 3 0 :: a16 (.any :: .p (.bool s12) :: a16 (a16 (a2 (.any :: [])))) : List AV)) (fun _ => (.cells (iI v.Kind :: iW v.N' :: iS v.Text :: .p (.slice 4 (Q0.rows v.Items)) :: []) :: .cells (iI 0 :: iW 0 :: iS [] :: .p .nilSlice :: []) :: .cells (Y0 Q0.cells v1.Items) :: .cells (iI v1.Kind :: iW v1.N' :: iS v1.Text :: .slice 4 2 0 v1.Items.length :: []) :: [] : List AObj)) (fun s12 => X4 N (Yf ry1 N v v1) v1 s12 = some r) (fun _ _ => lb) ?_ ?_
  ·apply iU h <;> intro h
   ·apply iU h <;> intro h
    ·show Exists _
     exact ⟨((Qtl .neq (Q0w .u64 v.N' 8388607) 0)), h, (fun i => i), ⟨(rA <| rE rfl <| rE rfl <| rE rfl <| rX <| rX <| rA <| rE rfl <| rX <| rX <| rX <| rX <| rW <| rA <| rN), (hE rfl <| hE rfl <| hO rfl <| hE rfl <| hN), rfl, rfl, (roE rfl <| roE rfl <| roE (Q2 _ _ _) <| roE rfl <| roN)⟩⟩
    ·show Exists _
     exact ⟨(false), h, (fun i => i), ⟨(rA <| rE rfl <| rE rfl <| rE rfl <| rX <| rX <| rA <| rE rfl <| rX <| rX <| rX <| rX <| rW <| rA <| rN), (hE rfl <| hE rfl <| hO rfl <| hE rfl <| hN), rfl, rfl, (roE rfl <| roE rfl <| roE (Q2 _ _ _) <| roE rfl <| roN)⟩⟩
   ·show Exists _
    exact ⟨(false), h, (fun i => i), ⟨(rA <| rE rfl <| rE rfl <| rE rfl <| rX <| rX <| rA <| rE rfl <| rX <| rX <| rX <| rX <| rW <| rA <| rN), (hE rfl <| hE rfl <| hO rfl <| hE rfl <| hN), rfl, rfl, (roE rfl <| roE rfl <| roE (Q2 _ _ _) <| roE rfl <| roN)⟩⟩
  rintro s12 h
  dsimp only [X4] at h
  apply iU h <;> intro h
  ·show Exists _
   exact ⟨(2143289344), h, (fun i => i), ⟨(rA <| rE rfl <| rE rfl <| rE rfl <| rX <| rX <| rX <| rX <| rX <| rX <| rV <| rA <| rN), (hE rfl <| hE rfl <| hO rfl <| hE rfl <| hN), rfl, rfl, (roE rfl <| roE rfl <| roE (Q2 _ _ _) <| roE rfl <| roN)⟩⟩
  ·show Exists _
   exact ⟨(v1.N'), h, (fun i => i), ⟨(rA <| rE rfl <| rE rfl <| rE rfl <| rX <| rX <| rX <| rX <| rX <| rX <| rV <| rA <| rN), (hE rfl <| hE rfl <| hO rfl <| hE rfl <| hN), rfl, rfl, (roE rfl <| roE rfl <| roE (Q2 _ _ _) <| roE rfl <| roN)⟩⟩
 rintro c9 h
 dsimp only [Yf] at h
 rw [cX] at h
 refine J4 (σ := Int) (fun _ => (.any :: .ptr 0 0 :: .ptr 1 0 :: .ptr 3 0 :: a16 (a16 (a16 (a4 (.any :: [])))) : List AV)) (fun c22 => (.cells (iI v.Kind :: iW v.N' :: iS v.Text :: .p (.slice 4 (Q0.rows v.Items)) :: []) :: .cells (iI 0 :: iW 0 :: iS [] :: .p .nilSlice :: []) :: .cells (Y0 Q0.cells v1.Items) :: .cells (iI v1.Kind :: iW c22 :: iS v1.Text :: .slice 4 2 0 v1.Items.length :: []) :: [] : List AObj)) (fun c22 => Zs ry1 N v v1 c22 = some r) (fun _ _ => lb) ?_ ?_
 ·refine J4 (σ := Bool) (fun s25 => (.any :: .ptr 0 0 :: .ptr 1 0 :: .ptr 3 0 :: a16 (a16 (.any :: .p (.bool s25) :: a16 (a2 (.any :: [])))) : List AV)) (fun _ => (.cells (iI v.Kind :: iW v.N' :: iS v.Text :: .p (.slice 4 (Q0.rows v.Items)) :: []) :: .cells (iI 0 :: iW 0 :: iS [] :: .p .nilSlice :: []) :: .cells (Y0 Q0.cells v1.Items) :: .cells (iI v1.Kind :: iW c9 :: iS v1.Text :: .slice 4 2 0 v1.Items.length :: []) :: [] : List AObj)) (fun s25 => X7 N (Zs ry1 N v v1) c9 s25 = some r) (fun _ _ => lb) ?_ ?_
  ·apply iU h <;> intro h
   ·apply iU h <;> intro h
    ·show Exists _
     exact ⟨((Qtl .neq (Q0w .u64 v.N' 4503599627370495) 0)), h, (fun i => i), ⟨(rA <| rE rfl <| rE rfl <| rE rfl <| rX <| rX <| rX <| rX <| rA <| rE rfl <| rX <| rX <| rW <| rA <| rN), (hE rfl <| hE rfl <| hO rfl <| hE rfl <| hN), rfl, rfl, (roE rfl <| roE rfl <| roE (Q2 _ _ _) <| roE rfl <| roN)⟩⟩
    ·show Exists _
     exact ⟨(false), h, (fun i => i), ⟨(rA <| rE rfl <| rE rfl <| rE rfl <| rX <| rX <| rX <| rX <| rA <| rE rfl <| rX <| rX <| rW <| rA <| rN), (hE rfl <| hE rfl <| hO rfl <| hE rfl <| hN), rfl, rfl, (roE rfl <| roE rfl <| roE (Q2 _ _ _) <| roE rfl <| roN)⟩⟩
   ·show Exists _
    exact ⟨(false), h, (fun i => i), ⟨(rA <| rE rfl <| rE rfl <| rE rfl <| rX <| rX <| rX <| rX <| rA <| rE rfl <| rX <| rX <| rW <| rA <| rN), (hE rfl <| hE rfl <| hO rfl <| hE rfl <| hN), rfl, rfl, (roE rfl <| roE rfl <| roE (Q2 _ _ _) <| roE rfl <| roN)⟩⟩
  rintro s25 h
  dsimp only [X7] at h
  apply iU h <;> intro h
  ·show Exists _
   exact ⟨(9221120237041090560), h, (fun i => i), ⟨(rA <| rE rfl <| rE rfl <| rE rfl <| rX <| rX <| rX <| rX <| rX <| rX <| rV <| rA <| rN), (hE rfl <| hE rfl <| hO rfl <| hE rfl <| hN), rfl, rfl, (roE rfl <| roE rfl <| roE (Q2 _ _ _) <| roE rfl <| roN)⟩⟩
  ·show Exists _
   exact ⟨(c9), h, (fun i => i), ⟨(rA <| rE rfl <| rE rfl <| rE rfl <| rX <| rX <| rX <| rX <| rX <| rX <| rV <| rA <| rN), (hE rfl <| hE rfl <| hO rfl <| hE rfl <| hN), rfl, rfl, (roE rfl <| roE rfl <| roE (Q2 _ _ _) <| roE rfl <| roN)⟩⟩
 rintro c22 h
 dsimp only [Zs] at h
 refine lpC (τ := Int × (List Q0)) (fun ⟨i45, _⟩ => (.any :: .ptr 0 0 :: .ptr 1 0 :: .ptr 3 0 :: iI i45 :: a16 (a16 (a16 (a4 ([])))) : List AV)) (fun ⟨_, l46⟩ => (.cells (iI v.Kind :: iW v.N' :: iS v.Text :: .p (.slice 4 (Q0.rows v.Items)) :: []) :: .cells (iI 0 :: iW 0 :: iS [] :: .p .nilSlice :: []) :: .dead :: .cells (iI v1.Kind :: iW c22 :: iS v1.Text :: .slice 4 4 0 l46.length :: []) :: .cells (Y0 Q0.cells l46) :: [] : List AObj)) (fun n4 ⟨i45, l46⟩ => X2 ry1 N v v1 c22 n4 i45 l46) (0, v1.Items) h (rho [0, 1, 2, 3, 2]) ⟨(rA <| rE rfl <| rE rfl <| rE rfl <| rE rfl <| rX <| rX <| rX <| rX <| rX <| rX <| rV <| rN), (hE rfl <| hE rfl <| hD <| hE rfl <| hO rfl <| hN), rfl, rfl, (roE rfl <| roE rfl <| roE rfl <| roE rfl <| roE (Q2 _ _ _) <| roN)⟩ fun n4 ⟨i45, l46⟩ h => ?_
 simp only [X2] at h
 rw [cX] at h
 apply iU h <;> intro h
 ·refine Qa ?_
  refine Q0.xR h fun y48 h => ?_
  refine cD h hy3 (.cons q4 .nil) fun v50 h => ?_
  obtain ⟨y52, hy53, h⟩ := Q2k h
  refine G9 (Qdk hy53 (by first | (simp; done) | (simp [Qi]; done))) ?_
  refine G9 (Qef (c := Q0.cells) (e := 4) (fun _ => rfl) hy53 (off := 0) (by omega) rfl (by decide)) ?_
  refine Qfi (c := Q0.cells) (e := 4) (fun _ => rfl) hy53 v50 (off := 0) (by first | omega | (simp only [Q0w, orI, Quy, Qe3, Q07, Q48]; omega)) rfl (by simp) ?_
  show Exists _
  exact ⟨(n4, (IntKind.wrap .i64 (i45 + 1)), ((l46 : List Q0).set (Int.toNat i45) v50)), h, Nat.lt_succ_self _, (fun i => i), ⟨(rA <| rE rfl <| rE rfl <| rE rfl <| rE rfl <| rX <| rX <| rX <| rX <| rX <| rX <| rV <| rN), (hE rfl <| hE rfl <| hD <| hC rfl (rE rfl <| rE rfl <| rE rfl <| rL (by first | (simp; done) | (simp [Qi]; done)) rfl <| rN) <| hO rfl <| hN), rfl, rfl, (roE rfl <| roE rfl <| roE rfl <| roE rfl <| roE (Q2 _ _ _) <| roN)⟩⟩
 ·obtain rfl := Qj h; exact (Frz.agg' (.cons (.p _) (.cons (.p _) (.cons (.p _) (.cons (Q0.frz_own (l := l46) rfl trivial (by first | (simp; done) | (simp [Qi]; done))) .nil)))))
def Zy : Nat → Q0 → Option (Q0)
 | 0 => fun _ => none
 | N + 1 => V7 (Zy N) N
theorem G7 {N} {v} {r} (h : Zy N v = some r) : X1 Tryz.prog G1 25 [.agg (Q0.cells v)] (.agg (Q0.cells r)) := by
 induction N generalizing v r with
 | zero => simp [Zy] at h
 | succ N ih => exact Q3g (fun h => ih h) h
def Wd (_N : Nat) (v : Q0) : Option (Bool) :=
 cond (Q8a .neq v.Text [])
 (some false)
 (cond (!(Q5 .eql v.Kind 24))
 (cond (Q5 .neq v.N' 0)
 (some false)
 (cond (Q5 .eql v.Kind 24)
 (cond (Q5 .geq v.N' 1)
 (some (Q5 .leq v.N' 24))
 (some false))
 (cond (Q5 .eql v.Kind 25)
 (some (Q5 .eql ((Q0.rows v.Items).length : Int) 2))
 (cond (Q5 .neq v.Kind 23)
 (some true)
 (some (Q5 .eql ((((Q0.rows v.Items).length : Int) : Int).tmod 2) 0))))))
 (cond (Q5 .eql v.Kind 24)
 (cond (Q5 .geq v.N' 1)
 (some (Q5 .leq v.N' 24))
 (some false))
 (cond (Q5 .eql v.Kind 25)
 (some (Q5 .eql ((Q0.rows v.Items).length : Int) 2))
 (cond (Q5 .neq v.Kind 23)
 (some true)
 (some (Q5 .eql ((((Q0.rows v.Items).length : Int) : Int).tmod 2) 0))))))
theorem Q1g {N} {v} {r} (h : Wd N v = some r) : X1 Tryz.prog G1 52 [.agg (Q0.cells v)] (.bool r) := by
 refine Q4 k52 ?_
 unfold Wd at h
 rw [cX, cY] at h
 apply iU h <;> intro h
 ·cases h; exact (.p _)
 ·apply iU h <;> intro h
  ·apply iU h <;> intro h
   ·cases h; exact (.p _)
   ·apply iU h <;> intro h
    ·apply iU h <;> intro h
     ·cases h; exact (.p _)
     ·cases h; exact (.p _)
    ·apply iU h <;> intro h
     ·cases h; exact (.p _)
     ·apply iU h <;> intro h
      ·cases h; exact (.p _)
      ·cases h; exact (.p _)
  ·apply iU h <;> intro h
   ·apply iU h <;> intro h
    ·cases h; exact (.p _)
    ·cases h; exact (.p _)
   ·apply iU h <;> intro h
    ·cases h; exact (.p _)
    ·apply iU h <;> intro h
     ·cases h; exact (.p _)
     ·cases h; exact (.p _)
def W7 (_N : Nat) (v : Q0) : Option (Bool) :=
 cond (Q5 .eql v.Kind 11)
 (cond (Q5 .eql (Q0w .u64 v.N' 2139095040) 2139095040)
 (cond (Q5 .neq (Q0w .u64 v.N' 8388607) 0)
 (some true)
 (cond (Q5 .eql v.Kind 12)
 (cond (Q5 .eql (Q0w .u64 v.N' 9218868437227405312) 9218868437227405312)
 (some (Q5 .neq (Q0w .u64 v.N' 4503599627370495) 0))
 (some false))
 (some false)))
 (cond (Q5 .eql v.Kind 12)
 (cond (Q5 .eql (Q0w .u64 v.N' 9218868437227405312) 9218868437227405312)
 (some (Q5 .neq (Q0w .u64 v.N' 4503599627370495) 0))
 (some false))
 (some false)))
 (cond (Q5 .eql v.Kind 12)
 (cond (Q5 .eql (Q0w .u64 v.N' 9218868437227405312) 9218868437227405312)
 (some (Q5 .neq (Q0w .u64 v.N' 4503599627370495) 0))
 (some false))
 (some false))
theorem Gj {N} {v} {r} (h : W7 N v = some r) : X1 Tryz.prog G1 79 [.agg (Q0.cells v)] (.bool r) := by
 refine Q4 k79 ?_
 unfold W7 at h
 rw [cX] at h
 apply iU h <;> intro h
 ·apply iU h <;> intro h
  ·apply iU h <;> intro h
   ·cases h; exact (.p _)
   ·apply iU h <;> intro h
    ·apply iU h <;> intro h
     ·cases h; exact (.p _)
     ·cases h; exact (.p _)
    ·cases h; exact (.p _)
  ·apply iU h <;> intro h
   ·apply iU h <;> intro h
    ·cases h; exact (.p _)
    ·cases h; exact (.p _)
   ·cases h; exact (.p _)
 ·apply iU h <;> intro h
  ·apply iU h <;> intro h
   ·cases h; exact (.p _)
   ·cases h; exact (.p _)
  ·cases h; exact (.p _)
def Ys (rz1 : Q0 → Q0 → Option (Bool)) (N : Nat) (a : Q0) (b : Q0) : Nat → Int → Option (Bool)
 | 0, _ => none
 | n + 1, i28 =>
  cond (Q5 .lss i28 ((Q0.rows a.Items).length : Int))
  ((idx a.Items i28).bind fun y30 =>
  (idx b.Items i28).bind fun y32 =>
  (rz1 y30 y32).bind fun v34 =>
  cond (!v34)
  (some false)
  (Ys rz1 N a b n (IntKind.wrap .i64 (i28 + 1))))
  (some true)
def Yo (rz1 : Q0 → Q0 → Option (Bool)) (N : Nat) (a : Q0) (b : Q0) : Nat → Int → Option (Bool)
 | 0, _ => none
 | n + 1, i56 =>
  cond (Q5 .lss i56 ((Q0.rows a.Items).length : Int))
  ((idx a.Items i56).bind fun y58 =>
  (idx b.Items i56).bind fun y60 =>
  (rz1 y58 y60).bind fun v62 =>
  cond (!v62)
  (some false)
  (Yo rz1 N a b n (IntKind.wrap .i64 (i56 + 1))))
  (some true)
def Vv (rz1 : Q0 → Q0 → Option (Bool)) (N : Nat) (a : Q0) (b : Q0) : Option (Bool) :=
 cond (Q5 .neq a.Kind b.Kind)
 (some false)
 (cond (Q5 .neq a.N' b.N')
 ((W7 N a).bind fun v3 =>
 cond v3
 ((W7 N b).bind fun v6 =>
 cond (!v6)
 (some false)
 (cond (Q8a .neq a.Text b.Text)
 (some false)
 (cond (Q5 .neq ((Q0.rows a.Items).length : Int) ((Q0.rows b.Items).length : Int))
 (some false)
 (Ys rz1 N a b N 0))))
 (some false))
 (cond (Q8a .neq a.Text b.Text)
 (some false)
 (cond (Q5 .neq ((Q0.rows a.Items).length : Int) ((Q0.rows b.Items).length : Int))
 (some false)
 (Yo rz1 N a b N 0))))
theorem Q1v {rz1 : Q0 → Q0 → Option (Bool)} (hv2 : ∀ {a} {b} {r}, rz1 a b = some r → X1 Tryz.prog G1 65 [.agg (Q0.cells a), .agg (Q0.cells b)] (.bool r)) {N} {a} {b} {r} (h : Vv rz1 N a b = some r) : X1 Tryz.prog G1 65 [.agg (Q0.cells a), .agg (Q0.cells b)] (.bool r) := by
 refine Q4 k65 ?_
 unfold Vv at h
 rw [cX, cY] at h
 apply iU h <;> intro h
 ·cases h; exact (.p _)
 ·apply iU h <;> intro h
  ·refine cP h Gj (.cons q4 .nil) fun v3 h => ?_
   apply iU h <;> intro h
   ·refine cP h Gj (.cons q4 .nil) fun v6 h => ?_
    apply iU h <;> intro h
    ·cases h; exact (.p _)
    ·apply iU h <;> intro h
     ·cases h; exact (.p _)
     ·apply iU h <;> intro h
      ·cases h; exact (.p _)
      ·refine lpC (τ := Int) (fun i28 => (.any :: .any :: .ptr 0 0 :: .ptr 1 0 :: .any :: iI i28 :: a16 (a16 (a16 (a8 ([])))) : List AV)) (fun _ => (.cells (iI a.Kind :: iW a.N' :: iS a.Text :: .p (.slice 4 (Q0.rows a.Items)) :: []) :: .cells (iI b.Kind :: iW b.N' :: iS b.Text :: .p (.slice 4 (Q0.rows b.Items)) :: []) :: [] : List AObj)) (fun n0 i28 => Ys rz1 N a b n0 i28) (0) h (fun i => i) ⟨(rW <| rE rfl <| rE rfl <| rA <| rE rfl <| rX <| rX <| rX <| rX <| rX <| rX <| rX <| rN), (hE rfl <| hE rfl <| hN), rfl, rfl, (roE rfl <| roE rfl <| roN)⟩ fun n0 i28 h => ?_
       simp only [Ys] at h
       rw [cX] at h
       apply iU h <;> intro h
       ·refine Qa ?_
        refine Q0.xR h fun y30 h => ?_
        refine Q0.xR h fun y32 h => ?_
        refine cD h hv2 (.cons q4 (.cons q4 .nil)) fun v34 h => ?_
        apply iU h <;> intro h
        ·cases h; exact (.p _)
        ·show Exists _
         exact ⟨(n0, (IntKind.wrap .i64 (i28 + 1))), h, Nat.lt_succ_self _, (fun i => i), ⟨(rW <| rE rfl <| rE rfl <| rA <| rE rfl <| rX <| rX <| rX <| rX <| rX <| rX <| rX <| rN), (hE rfl <| hE rfl <| hN), rfl, rfl, (roE rfl <| roE rfl <| roN)⟩⟩
       ·cases h; exact (.p _)
   ·cases h; exact (.p _)
  ·apply iU h <;> intro h
   ·cases h; exact (.p _)
   ·apply iU h <;> intro h
    ·cases h; exact (.p _)
    ·refine lpC (τ := Int) (fun i56 => (.any :: .any :: .ptr 0 0 :: .ptr 1 0 :: .any :: iI i56 :: a16 (a16 (a16 (a8 ([])))) : List AV)) (fun _ => (.cells (iI a.Kind :: iW a.N' :: iS a.Text :: .p (.slice 4 (Q0.rows a.Items)) :: []) :: .cells (iI b.Kind :: iW b.N' :: iS b.Text :: .p (.slice 4 (Q0.rows b.Items)) :: []) :: [] : List AObj)) (fun n1 i56 => Yo rz1 N a b n1 i56) (0) h (fun i => i) ⟨(rW <| rE rfl <| rE rfl <| rA <| rE rfl <| rX <| rX <| rX <| rX <| rX <| rX <| rX <| rN), (hE rfl <| hE rfl <| hN), rfl, rfl, (roE rfl <| roE rfl <| roN)⟩ fun n1 i56 h => ?_
     simp only [Yo] at h
     rw [cX] at h
     apply iU h <;> intro h
     ·refine Qa ?_
      refine Q0.xR h fun y58 h => ?_
      refine Q0.xR h fun y60 h => ?_
      refine cD h hv2 (.cons q4 (.cons q4 .nil)) fun v62 h => ?_
      apply iU h <;> intro h
      ·cases h; exact (.p _)
      ·show Exists _
       exact ⟨(n1, (IntKind.wrap .i64 (i56 + 1))), h, Nat.lt_succ_self _, (fun i => i), ⟨(rW <| rE rfl <| rE rfl <| rA <| rE rfl <| rX <| rX <| rX <| rX <| rX <| rX <| rX <| rN), (hE rfl <| hE rfl <| hN), rfl, rfl, (roE rfl <| roE rfl <| roN)⟩⟩
     ·cases h; exact (.p _)
def Yt : Nat → Q0 → Q0 → Option (Bool)
 | 0 => fun _ _ => none
 | N + 1 => Vv (Yt N) N
theorem Q2b {N} {a} {b} {r} (h : Yt N a b = some r) : X1 Tryz.prog G1 65 [.agg (Q0.cells a), .agg (Q0.cells b)] (.bool r) := by
 induction N generalizing a b r with
 | zero => simp [Yt] at h
 | succ N ih => exact Q1v (fun h => ih h) h
end
end
end Go.Av
