/- The law. Part of a proof of a given statement: for every input the law returns true and the arguments read as before; no condition beyond the given row. -/
import Derived.Test.YtegedmcbfmfjeaaGreatDoorLiftF1
namespace Go.Av
noncomputable section
open Go.Proofs
set_option maxRecDepth 100000
set_option maxHeartbeats 4000000
attribute [local irreducible] V9 Xn Q4u Q4y Qgk Qhv Q7o
section
def Xy (_N : Nat) : Option (List Qh) :=
 some [(⟨64, 1, 0, false, false⟩ : Qh), (⟨65, 2, 0, false, false⟩ : Qh), (⟨66, 2, 0, false, false⟩ : Qh), (⟨86, 2, 1, false, false⟩ : Qh), (⟨80, 3, 1, false, false⟩ : Qh), (⟨96, 4, 2, false, false⟩ : Qh), (⟨67, 5, 0, false, false⟩ : Qh), (⟨82, 5, 1, false, false⟩ : Qh), (⟨112, 5, 4, false, false⟩ : Qh), (⟨68, 6, 0, false, false⟩ : Qh), (⟨83, 6, 1, false, false⟩ : Qh), (⟨128, 6, 8, false, false⟩ : Qh), (⟨81, 7, 1, false, false⟩ : Qh), (⟨97, 8, 2, false, false⟩ : Qh), (⟨84, 9, 1, false, false⟩ : Qh), (⟨113, 9, 4, false, false⟩ : Qh), (⟨85, 10, 1, false, false⟩ : Qh), (⟨129, 10, 8, false, false⟩ : Qh), (⟨114, 11, 4, false, false⟩ : Qh), (⟨130, 12, 8, false, false⟩ : Qh), (⟨116, 13, 4, false, false⟩ : Qh), (⟨132, 14, 8, false, false⟩ : Qh), (⟨148, 15, 16, false, false⟩ : Qh), (⟨115, 16, 4, false, false⟩ : Qh), (⟨131, 17, 8, false, false⟩ : Qh), (⟨152, 18, 16, false, false⟩ : Qh), (⟨160, 19, 1, true, false⟩ : Qh), (⟨176, 19, 4, true, false⟩ : Qh), (⟨161, 20, 1, true, false⟩ : Qh), (⟨177, 20, 4, true, false⟩ : Qh), (⟨163, 21, 1, true, false⟩ : Qh), (⟨179, 21, 4, true, false⟩ : Qh), (⟨69, 22, 0, false, true⟩ : Qh), (⟨192, 22, 1, true, true⟩ : Qh), (⟨208, 22, 4, true, true⟩ : Qh), (⟨193, 23, 1, true, true⟩ : Qh), (⟨209, 23, 4, true, true⟩ : Qh), (⟨224, 24, 1, true, true⟩ : Qh), (⟨240, 24, 4, true, true⟩ : Qh), (⟨0, 25, 0, false, true⟩ : Qh)]
theorem Q0n {N} {r} (h : Xy N = some r) : Xe Tryz.prog G1 72 [] (.slice 5 (Qv Qh.cells r)) := by
 refine Qc k72 ?_
 unfold Xy at h
 obtain rfl := Qa h; exact (frz_own (c := Qh.cells) (l := ([(⟨64, 1, 0, false, false⟩ : Qh), (⟨65, 2, 0, false, false⟩ : Qh), (⟨66, 2, 0, false, false⟩ : Qh), (⟨86, 2, 1, false, false⟩ : Qh), (⟨80, 3, 1, false, false⟩ : Qh), (⟨96, 4, 2, false, false⟩ : Qh), (⟨67, 5, 0, false, false⟩ : Qh), (⟨82, 5, 1, false, false⟩ : Qh), (⟨112, 5, 4, false, false⟩ : Qh), (⟨68, 6, 0, false, false⟩ : Qh), (⟨83, 6, 1, false, false⟩ : Qh), (⟨128, 6, 8, false, false⟩ : Qh), (⟨81, 7, 1, false, false⟩ : Qh), (⟨97, 8, 2, false, false⟩ : Qh), (⟨84, 9, 1, false, false⟩ : Qh), (⟨113, 9, 4, false, false⟩ : Qh), (⟨85, 10, 1, false, false⟩ : Qh), (⟨129, 10, 8, false, false⟩ : Qh), (⟨114, 11, 4, false, false⟩ : Qh), (⟨130, 12, 8, false, false⟩ : Qh), (⟨116, 13, 4, false, false⟩ : Qh), (⟨132, 14, 8, false, false⟩ : Qh), (⟨148, 15, 16, false, false⟩ : Qh), (⟨115, 16, 4, false, false⟩ : Qh), (⟨131, 17, 8, false, false⟩ : Qh), (⟨152, 18, 16, false, false⟩ : Qh), (⟨160, 19, 1, true, false⟩ : Qh), (⟨176, 19, 4, true, false⟩ : Qh), (⟨161, 20, 1, true, false⟩ : Qh), (⟨177, 20, 4, true, false⟩ : Qh), (⟨163, 21, 1, true, false⟩ : Qh), (⟨179, 21, 4, true, false⟩ : Qh), (⟨69, 22, 0, false, true⟩ : Qh), (⟨192, 22, 1, true, true⟩ : Qh), (⟨208, 22, 4, true, true⟩ : Qh), (⟨193, 23, 1, true, true⟩ : Qh), (⟨209, 23, 4, true, true⟩ : Qh), (⟨224, 24, 1, true, true⟩ : Qh), (⟨240, 24, 4, true, true⟩ : Qh), (⟨0, 25, 0, false, true⟩ : Qh)] : List Qh)) (fun _ => rfl) rfl trivial (by first | (simp; done) | (simp [Qv]; done)))
def Xf (N : Nat) (code : Int) (v1 : List Qh) : Nat → Int → Option (Qh × Bool)
 | 0, _ => none
 | n + 1, i16 =>
  cond (Q7 .lss i16 ((Qv Qh.cells v1).length : Int))
  ((idx v1 i16).bind fun y18 =>
  cond (Q7 .eql y18.Code code)
  ((idx v1 i16).bind fun y21 =>
  some (y21, true))
  (Xf N code v1 n (IntKind.wrap .i64 (i16 + 1))))
  (some ((⟨0, 0, 0, false, false⟩ : Qh), false))
def Yz (N : Nat) (code : Int) : Option (Qh × Bool) :=
 (Xy N).bind fun v1 =>
 Xf N code v1 N 0
theorem V5 {N} {code} {r} (h : Yz N code = some r) : Xe Tryz.prog G1 58 [.int .i64 code] (.tuple [.agg (Qh.cells r.1), .bool r.2]) := by
 refine Qc k58 ?_
 unfold Yz at h
 refine cP h Q0n p0 fun v1 h => ?_
 refine lpC (τ := Int) (fun i16 => (iI code :: .any :: .ptr 0 0 :: .any :: .p (.slice 5 (Qv Qh.cells v1)) :: iI i16 :: a16 (a2 (.any :: [])) : List AV)) (fun _ => (.cells (iI 0 :: iI 0 :: iI 0 :: .p (.bool false) :: .p (.bool false) :: []) :: [] : List AObj)) (fun n0 i16 => Xf N code v1 n0 i16) (0) h (fun i => i) ⟨(rE rfl <| rA <| rE rfl <| rA <| rE rfl <| rE rfl <| rX <| rX <| rW <| rA <| rN), (hE rfl <| hN), rfl, rfl, (roE rfl <| roN)⟩ fun n0 i16 h => ?_
 simp only [Xf] at h
 rw [cX] at h
 apply iU h <;> intro h
 ·refine xR h fun y18 h => ?_
  apply iU h <;> intro h
  ·refine xR h fun y21 h => ?_
   obtain rfl := Qa h; exact (Frz.tuple' (.cons (Frz.agg' p5) p1))
  ·show Exists _
   exact ⟨(n0, (IntKind.wrap .i64 (i16 + 1))), h, Nat.lt_succ_self _, (fun i => i), ⟨(rE rfl <| rA <| rE rfl <| rA <| rE rfl <| rE rfl <| rX <| rX <| rW <| rA <| rN), (hE rfl <| hN), rfl, rfl, (roE rfl <| roN)⟩⟩
 ·obtain rfl := Qa h; exact (Frz.tuple' (.cons (Frz.agg' p5) p1))
def Yj (N : Nat) (s_0 : List UInt8) : Nat → Int → Option (Bool)
 | 0, _ => none
 | n + 1, i10 =>
  cond (Q7 .lss i10 (s_0.length : Int))
  ((idx s_0 i10).bind fun b12 =>
  cond (Q7 .geq (b12.toNat : Int) 128)
  (some false)
  (Yj N s_0 n (IntKind.wrap .i64 (i10 + 1))))
  (some true)
def Qp (N : Nat) (s_0 : List UInt8) : Option (Bool) :=
 Yj N s_0 N 0
theorem Qu {N} {s_0} {r} (h : Qp N s_0 = some r) : Xe Tryz.prog G1 64 [.str s_0] (.bool r) := by
 refine Qc k64 ?_
 unfold Qp at h
 refine lpC (τ := Int) (fun i10 => (iS s_0 :: .any :: .any :: iI i10 :: a8 (a2 ([])) : List AV)) (fun _ => ([] : List AObj)) (fun n0 i10 => Yj N s_0 n0 i10) (0) h (fun i => i) ⟨(rE rfl <| rW <| rE rfl <| rX <| rW <| rN), (hN), rfl, rfl, (roN)⟩ fun n0 i10 h => ?_
 simp only [Yj] at h
 rw [cX] at h
 apply iU h <;> intro h
 ·refine xB h fun b12 h => ?_
  apply iU h <;> intro h
  ·cases h; exact (.p _)
  ·show Exists _
   exact ⟨(n0, (IntKind.wrap .i64 (i10 + 1))), h, Nat.lt_succ_self _, (fun i => i), ⟨(rE rfl <| rW <| rE rfl <| rX <| rW <| rN), (hN), rfl, rfl, (roN)⟩⟩
 ·cases h; exact (.p _)
def Ql (_N : Nat) (kind : Int) : Option (Int) :=
 cond (Q7 .eql kind 2)
 (some 1)
 (cond (Q7 .eql kind 3)
 (some 8)
 (cond (Q7 .eql kind 4)
 (some 16)
 (cond (Q7 .eql kind 5)
 (some 32)
 (cond (Q7 .eql kind 11)
 (some 32)
 (cond (Q7 .eql kind 13)
 (some 32)
 (cond (Q7 .eql kind 16)
 (some 32)
 (cond (Q7 .eql kind 6)
 (some 64)
 (cond (Q7 .eql kind 12)
 (some 64)
 (cond (Q7 .eql kind 14)
 (some 64)
 (cond (Q7 .eql kind 17)
 (some 64)
 (cond (Q7 .eql kind 10)
 (some 64)
 (cond (Q7 .eql kind 7)
 (some (-8))
 (cond (Q7 .eql kind 8)
 (some (-16))
 (cond (Q7 .eql kind 9)
 (some (-32))
 (some 0)))))))))))))))
theorem Ja {N} {kind} {r} (h : Ql N kind = some r) : Xe Tryz.prog G1 75 [.int .i64 kind] (.int .i64 r) := by
 refine Qc k75 ?_
 unfold Ql at h
 rw [cX] at h
 apply iU h <;> intro h
 ·cases h; exact (.p _)
 ·apply iU h <;> intro h
  ·cases h; exact (.p _)
  ·apply iU h <;> intro h
   ·cases h; exact (.p _)
   ·refine ifO h (fun hc4 h => ?_) (fun hc4 h => ?_)
    ·refine ifT hc4 ?_
     cases h; exact (.p _)
    ·refine ifO h (fun hc5 h => ?_) (fun hc5 h => ?_)
     ·refine ifT hc5 ?_
      cases h; exact (.p _)
     ·refine ifO h (fun hc6 h => ?_) (fun hc6 h => ?_)
      ·refine ifT hc6 ?_
       cases h; exact (.p _)
      ·apply iU h <;> intro h
       ·cases h; exact (.p _)
       ·refine ifO h (fun hc8 h => ?_) (fun hc8 h => ?_)
        ·refine ifT hc8 ?_
         cases h; exact (.p _)
        ·refine ifO h (fun hc9 h => ?_) (fun hc9 h => ?_)
         ·refine ifT hc9 ?_
          cases h; exact (.p _)
         ·refine ifO h (fun hc10 h => ?_) (fun hc10 h => ?_)
          ·refine ifT hc10 ?_
           cases h; exact (.p _)
          ·refine ifO h (fun hc11 h => ?_) (fun hc11 h => ?_)
           ·refine ifT hc11 ?_
            cases h; exact (.p _)
           ·apply iU h <;> intro h
            ·cases h; exact (.p _)
            ·apply iU h <;> intro h
             ·cases h; exact (.p _)
             ·apply iU h <;> intro h
              ·cases h; exact (.p _)
              ·apply iU h <;> intro h
               ·cases h; exact (.p _)
               ·cases h; exact (.p _)
def Wd (_N : Nat) (n_0 : Int) : Option (Bool) :=
 cond (Q7 .leq n_0 1114111)
 (cond (Q7 .lss n_0 55296)
 (some true)
 (some (Q7 .gtr n_0 57343)))
 (some false)
theorem Q1h {N} {n_0} {r} (h : Wd N n_0 = some r) : Xe Tryz.prog G1 76 [.int .u64 n_0] (.bool r) := by
 refine Qc k76 ?_
 unfold Wd at h
 rw [cX] at h
 apply iU h <;> intro h
 ·apply iU h <;> intro h
  ·cases h; exact (.p _)
  ·cases h; exact (.p _)
 ·cases h; exact (.p _)
def Xq (_N : Nat) (n_0 : Int) (bits : Int) : Option (Bool) :=
 cond (decide (0 ≤ (IntKind.wrap .u64 (bits - 1)))) (cond (Q7 .lss n_0 (Jh .u64 1 (IntKind.wrap .u64 (bits - 1))))
 (some true)
 (some (Q7 .geq n_0 (IntKind.wrap .u64 (0 - (Jh .u64 1 (IntKind.wrap .u64 (bits - 1)))))))) none
theorem Q05 {N} {n_0} {bits} {r} (h : Xq N n_0 bits = some r) : Xe Tryz.prog G1 77 [.int .u64 n_0, .int .u64 bits] (.bool r) := by
 refine Qc k77 ?_
 unfold Xq at h
 rw [cX] at h
 refine kU h fun h => ?_
 apply iU h <;> intro h
 ·cases h; exact (.p _)
 ·cases h; exact (.p _)
def X1 (N : Nat) (v : Q0) : Option (Bool) :=
 (Ql N v.Kind).bind fun v1 =>
 cond (Q7 .eql v.Kind 16)
 ((Wd N v.N').bind fun v4 =>
 some v4)
 (cond (Q7 .eql v1 0)
 (some (Q7 .eql v.N' 0))
 (cond (Q7 .lss v1 0)
 ((Xq N v.N' (IntKind.wrap .u64 (IntKind.wrap .i64 (0 - v1)))).bind fun v8 =>
 some v8)
 (cond (Q7 .eql v1 64)
 (some true)
 (cond (decide (0 ≤ (IntKind.wrap .u64 v1))) (some (Q7 .lss v.N' (Jh .u64 1 (IntKind.wrap .u64 v1)))) none))))
theorem Um {N} {v} {r} (h : X1 N v = some r) : Xe Tryz.prog G1 61 [.agg (Q0.cells v)] (.bool r) := by
 refine Qc k61 ?_
 unfold X1 at h
 rw [cX] at h
 refine cP h Ja p1 fun v1 h => ?_
 apply iU h <;> intro h
 ·refine cP h Q1h p1 fun v4 h => ?_
  cases h; exact (.p _)
 ·apply iU h <;> intro h
  ·cases h; exact (.p _)
  ·apply iU h <;> intro h
   ·refine cP h Q05 p2 fun v8 h => ?_
    cases h; exact (.p _)
   ·apply iU h <;> intro h
    ·cases h; exact (.p _)
    ·refine kU h fun h => ?_
     cases h; exact (.p _)
def Xd (_N : Nat) (kind : Int) : Option (Bool) :=
 cond (Q7 .eql kind 15)
 (some true)
 (cond (Q7 .geq kind 18)
 (some (Q7 .leq kind 21))
 (some false))
theorem Ux {N} {kind} {r} (h : Xd N kind = some r) : Xe Tryz.prog G1 62 [.int .i64 kind] (.bool r) := by
 refine Qc k62 ?_
 unfold Xd at h
 rw [cX] at h
 apply iU h <;> intro h
 ·cases h; exact (.p _)
 ·apply iU h <;> intro h
  ·cases h; exact (.p _)
  ·cases h; exact (.p _)
def Q6 (_N : Nat) (s_0 : List UInt8) (i : Int) (low : Int) (high : Int) : Option (Bool) :=
 cond (Q7 .lss i (s_0.length : Int))
 ((idx s_0 i).bind fun b2 =>
 cond (Q7 .geq (b2.toNat : Int) low)
 ((idx s_0 i).bind fun b5 =>
 some (Q7 .leq (b5.toNat : Int) high))
 (some false))
 (some false)
theorem Qg {N} {s_0} {i} {low} {high} {r} (h : Q6 N s_0 i low high = some r) : Xe Tryz.prog G1 85 [.str s_0, .int .i64 i, .int .u8 low, .int .u8 high] (.bool r) := by
 refine Qc k85 ?_
 unfold Q6 at h
 rw [cX] at h
 apply iU h <;> intro h
 ·refine xB h fun b2 h => ?_
  apply iU h <;> intro h
  ·refine xB h fun b5 h => ?_
   cases h; exact (.p _)
  ·cases h; exact (.p _)
 ·cases h; exact (.p _)
def Zf (_N : Nat) (s139 : Bool) : Option (Int) :=
 cond s139
 (some 4)
 (some 0)
def Zt (N : Nat) (k4 : Bool → Option (Int)) (s_0 : List UInt8) (i : Int) (b1 : UInt8) (s170 : Bool) : Option (Int) :=
 cond s170
 (k4 s170)
 (cond (Q7 .eql (b1.toNat : Int) 244)
 ((Q6 N s_0 (IntKind.wrap .i64 (i + 1)) 128 143).bind fun v183 =>
 cond v183
 ((Q6 N s_0 (IntKind.wrap .i64 (i + 2)) 128 191).bind fun v186 =>
 cond v186
 ((Q6 N s_0 (IntKind.wrap .i64 (i + 3)) 128 191).bind fun v189 =>
 k4 v189)
 (k4 false))
 (k4 false))
 (k4 false))
def Y7 (N : Nat) (k4 : Bool → Option (Int)) (s_0 : List UInt8) (i : Int) (b1 : UInt8) (s149 : Bool) : Option (Int) :=
 cond s149
 (k4 s149)
 (cond (Q7 .geq (b1.toNat : Int) 241)
 (cond (Q7 .leq (b1.toNat : Int) 243)
 ((Q6 N s_0 (IntKind.wrap .i64 (i + 1)) 128 191).bind fun v173 =>
 cond v173
 ((Q6 N s_0 (IntKind.wrap .i64 (i + 2)) 128 191).bind fun v176 =>
 cond v176
 ((Q6 N s_0 (IntKind.wrap .i64 (i + 3)) 128 191).bind fun v179 =>
 Zt N k4 s_0 i b1 v179)
 (Zt N k4 s_0 i b1 false))
 (Zt N k4 s_0 i b1 false))
 (Zt N k4 s_0 i b1 false))
 (Zt N k4 s_0 i b1 false))
def Zu (N : Nat) (s_0 : List UInt8) (i : Int) (b1 : UInt8) (s50 : Bool) : Option (Int) :=
 cond s50
 (some 3)
 (cond (Q7 .eql (b1.toNat : Int) 240)
 ((Q6 N s_0 (IntKind.wrap .i64 (i + 1)) 144 191).bind fun v151 =>
 cond v151
 ((Q6 N s_0 (IntKind.wrap .i64 (i + 2)) 128 191).bind fun v154 =>
 cond v154
 ((Q6 N s_0 (IntKind.wrap .i64 (i + 3)) 128 191).bind fun v157 =>
 Y7 N (Zf N) s_0 i b1 v157)
 (Y7 N (Zf N) s_0 i b1 false))
 (Y7 N (Zf N) s_0 i b1 false))
 (Y7 N (Zf N) s_0 i b1 false))
def Yr (N : Nat) (k1 : Bool → Option (Int)) (s_0 : List UInt8) (i : Int) (b1 : UInt8) (s71 : Bool) : Option (Int) :=
 cond s71
 (k1 s71)
 (cond (Q7 .geq (b1.toNat : Int) 225)
 (cond (Q7 .leq (b1.toNat : Int) 239)
 (cond (Q7 .neq (b1.toNat : Int) 237)
 ((Q6 N s_0 (IntKind.wrap .i64 (i + 1)) 128 191).bind fun v82 =>
 cond v82
 ((Q6 N s_0 (IntKind.wrap .i64 (i + 2)) 128 191).bind fun v85 =>
 k1 v85)
 (k1 false))
 (k1 false))
 (k1 false))
 (k1 false))
def Yw (N : Nat) (k1 : Bool → Option (Int)) (s_0 : List UInt8) (i : Int) (b1 : UInt8) (s57 : Bool) : Option (Int) :=
 cond s57
 (k1 s57)
 (cond (Q7 .eql (b1.toNat : Int) 237)
 ((Q6 N s_0 (IntKind.wrap .i64 (i + 1)) 128 159).bind fun v73 =>
 cond v73
 ((Q6 N s_0 (IntKind.wrap .i64 (i + 2)) 128 191).bind fun v76 =>
 Yr N k1 s_0 i b1 v76)
 (Yr N k1 s_0 i b1 false))
 (Yr N k1 s_0 i b1 false))
def Yt (N : Nat) (s_0 : List UInt8) (i : Int) (b1 : UInt8) (s8 : Bool) : Option (Int) :=
 cond s8
 (some 2)
 (cond (Q7 .eql (b1.toNat : Int) 224)
 ((Q6 N s_0 (IntKind.wrap .i64 (i + 1)) 160 191).bind fun v59 =>
 cond v59
 ((Q6 N s_0 (IntKind.wrap .i64 (i + 2)) 128 191).bind fun v62 =>
 Yw N (Zu N s_0 i b1) s_0 i b1 v62)
 (Yw N (Zu N s_0 i b1) s_0 i b1 false))
 (Yw N (Zu N s_0 i b1) s_0 i b1 false))
def Wg (N : Nat) (s_0 : List UInt8) (i : Int) : Option (Int) :=
 (idx s_0 i).bind fun b1 =>
 cond (Q7 .lss (b1.toNat : Int) 128)
 (some 1)
 (cond (Q7 .geq (b1.toNat : Int) 194)
 (cond (Q7 .leq (b1.toNat : Int) 223)
 ((Q6 N s_0 (IntKind.wrap .i64 (i + 1)) 128 191).bind fun v11 =>
 Yt N s_0 i b1 v11)
 (Yt N s_0 i b1 false))
 (Yt N s_0 i b1 false))
theorem Q1e {N} {s_0} {i} {r} (h : Wg N s_0 i = some r) : Xe Tryz.prog G1 78 [.str s_0, .int .i64 i] (.int .i64 r) := by
 refine Qc k78 ?_
 unfold Wg at h
 rw [cX] at h
 refine xB h fun b1 h => ?_
 apply iU h <;> intro h
 ·cases h; exact (.p _)
 ·refine Gi (σ := Bool) (fun s8 => (iS s_0 :: iI i :: a2 (.any :: .p (.int .u8 (b1.toNat : Int)) :: a4 (a2 (.p (.bool s8) :: a16 (a16 (a16 (a16 (a16 (a16 (a16 (a16 ([]))))))))))) : List AV)) (fun _ => ([] : List AObj)) (fun s8 => Yt N s_0 i b1 s8 = some r) (fun _ _ => lb) ?_ ?_
  ·apply iU h <;> intro h
   ·apply iU h <;> intro h
    ·refine cP h Qg p4 fun v11 h => ?_
     show Exists _
     exact ⟨(v11), h, (fun i => i), ⟨(rE rfl <| rE rfl <| rW <| rA <| rE rfl <| rV <| rW <| rE rfl <| rX <| rX <| rX <| rX <| rX <| rX <| rX <| rX <| rX <| rX <| rX <| rX <| rX <| rX <| rX <| rX <| rN), (hN), rfl, rfl, (roN)⟩⟩
    ·show Exists _
     exact ⟨(false), h, (fun i => i), ⟨(rE rfl <| rE rfl <| rW <| rA <| rE rfl <| rV <| rW <| rE rfl <| rX <| rX <| rX <| rX <| rX <| rX <| rX <| rX <| rX <| rX <| rX <| rX <| rX <| rX <| rX <| rX <| rN), (hN), rfl, rfl, (roN)⟩⟩
   ·show Exists _
    exact ⟨(false), h, (fun i => i), ⟨(rE rfl <| rE rfl <| rW <| rA <| rE rfl <| rV <| rW <| rE rfl <| rX <| rX <| rX <| rX <| rX <| rX <| rX <| rX <| rX <| rX <| rX <| rX <| rX <| rX <| rX <| rX <| rN), (hN), rfl, rfl, (roN)⟩⟩
  rintro s8 h
  dsimp only [Yt] at h
  rw [cX] at h
  apply iU h <;> intro h
  ·cases h; exact (.p _)
  ·refine Gi (σ := Bool) (fun s50 => (iS s_0 :: iI i :: a2 (.any :: .p (.int .u8 (b1.toNat : Int)) :: a16 (a2 (.any :: .p (.bool s50) :: a16 (a16 (a16 (a16 (a16 (a16 (a16 (a2 (.any :: []))))))))))) : List AV)) (fun _ => ([] : List AObj)) (fun s50 => Zu N s_0 i b1 s50 = some r) (fun _ _ => lb) ?_ ?_
   ·refine Gi (σ := Bool) (fun s57 => (iS s_0 :: iI i :: a2 (.any :: .p (.int .u8 (b1.toNat : Int)) :: a16 (a2 (.any :: .p (.bool s57) :: a16 (a16 (a16 (a16 (a16 (a16 (a16 (a2 (.any :: []))))))))))) : List AV)) (fun _ => ([] : List AObj)) (fun s57 => Yw N (Zu N s_0 i b1) s_0 i b1 s57 = some r) (fun _ _ => lb) ?_ ?_
    ·apply iU h <;> intro h
     ·refine cP h Qg p4 fun v59 h => ?_
      apply iU h <;> intro h
      ·refine cP h Qg p4 fun v62 h => ?_
       show Exists _
       exact ⟨(v62), h, (fun i => i), ⟨(rE rfl <| rE rfl <| rW <| rA <| rE rfl <| rX <| rX <| rW <| rA <| rE rfl <| rX <| rX <| rX <| rX <| rX <| rX <| rX <| rX <| rX <| rX <| rX <| rX <| rX <| rX <| rW <| rA <| rN), (hN), rfl, rfl, (roN)⟩⟩
      ·show Exists _
       exact ⟨(false), h, (fun i => i), ⟨(rE rfl <| rE rfl <| rW <| rA <| rE rfl <| rX <| rX <| rW <| rA <| rE rfl <| rX <| rX <| rX <| rX <| rX <| rX <| rX <| rX <| rX <| rX <| rX <| rX <| rX <| rX <| rW <| rA <| rN), (hN), rfl, rfl, (roN)⟩⟩
     ·show Exists _
      exact ⟨(false), h, (fun i => i), ⟨(rE rfl <| rE rfl <| rW <| rA <| rE rfl <| rX <| rX <| rW <| rA <| rE rfl <| rX <| rX <| rX <| rX <| rX <| rX <| rX <| rX <| rX <| rX <| rX <| rX <| rX <| rX <| rW <| rA <| rN), (hN), rfl, rfl, (roN)⟩⟩
    rintro s57 h
    dsimp only [Yw] at h
    rw [cX] at h
    apply iU h <;> intro h
    ·show Exists _
     exact ⟨(s57), h, (fun i => i), ⟨(rE rfl <| rE rfl <| rW <| rA <| rE rfl <| rX <| rX <| rW <| rA <| rE rfl <| rX <| rX <| rX <| rX <| rX <| rX <| rX <| rX <| rX <| rX <| rX <| rX <| rX <| rX <| rW <| rA <| rN), (hN), rfl, rfl, (roN)⟩⟩
    ·refine Gi (σ := Bool) (fun s71 => (iS s_0 :: iI i :: a2 (.any :: .p (.int .u8 (b1.toNat : Int)) :: a16 (a2 (.any :: .p (.bool s71) :: a16 (a16 (a16 (a16 (a16 (a16 (a16 (a2 (.any :: []))))))))))) : List AV)) (fun _ => ([] : List AObj)) (fun s71 => Yr N (Zu N s_0 i b1) s_0 i b1 s71 = some r) (fun _ _ => lb) ?_ ?_
     ·apply iU h <;> intro h
      ·refine cP h Qg p4 fun v73 h => ?_
       apply iU h <;> intro h
       ·refine cP h Qg p4 fun v76 h => ?_
        show Exists _
        exact ⟨(v76), h, (fun i => i), ⟨(rE rfl <| rE rfl <| rW <| rA <| rE rfl <| rX <| rX <| rW <| rA <| rE rfl <| rX <| rX <| rX <| rX <| rX <| rX <| rX <| rX <| rX <| rX <| rX <| rX <| rX <| rX <| rW <| rA <| rN), (hN), rfl, rfl, (roN)⟩⟩
       ·show Exists _
        exact ⟨(false), h, (fun i => i), ⟨(rE rfl <| rE rfl <| rW <| rA <| rE rfl <| rX <| rX <| rW <| rA <| rE rfl <| rX <| rX <| rX <| rX <| rX <| rX <| rX <| rX <| rX <| rX <| rX <| rX <| rX <| rX <| rW <| rA <| rN), (hN), rfl, rfl, (roN)⟩⟩
      ·show Exists _
       exact ⟨(false), h, (fun i => i), ⟨(rE rfl <| rE rfl <| rW <| rA <| rE rfl <| rX <| rX <| rW <| rA <| rE rfl <| rX <| rX <| rX <| rX <| rX <| rX <| rX <| rX <| rX <| rX <| rX <| rX <| rX <| rX <| rW <| rA <| rN), (hN), rfl, rfl, (roN)⟩⟩
     rintro s71 h
     dsimp only [Yr] at h
     rw [cX] at h
     apply iU h <;> intro h
     ·show Exists _
      exact ⟨(s71), h, (fun i => i), ⟨(rE rfl <| rE rfl <| rW <| rA <| rE rfl <| rX <| rX <| rW <| rA <| rE rfl <| rX <| rX <| rX <| rX <| rX <| rX <| rX <| rX <| rX <| rX <| rX <| rX <| rX <| rX <| rW <| rA <| rN), (hN), rfl, rfl, (roN)⟩⟩
     ·apply iU h <;> intro h
      ·apply iU h <;> intro h
       ·apply iU h <;> intro h
        ·refine cP h Qg p4 fun v82 h => ?_
         apply iU h <;> intro h
         ·refine cP h Qg p4 fun v85 h => ?_
          show Exists _
          exact ⟨(v85), h, (fun i => i), ⟨(rE rfl <| rE rfl <| rW <| rA <| rE rfl <| rX <| rX <| rW <| rA <| rE rfl <| rX <| rX <| rX <| rX <| rX <| rX <| rX <| rX <| rX <| rX <| rX <| rX <| rX <| rX <| rW <| rA <| rN), (hN), rfl, rfl, (roN)⟩⟩
         ·show Exists _
          exact ⟨(false), h, (fun i => i), ⟨(rE rfl <| rE rfl <| rW <| rA <| rE rfl <| rX <| rX <| rW <| rA <| rE rfl <| rX <| rX <| rX <| rX <| rX <| rX <| rX <| rX <| rX <| rX <| rX <| rX <| rX <| rX <| rW <| rA <| rN), (hN), rfl, rfl, (roN)⟩⟩
        ·show Exists _
         exact ⟨(false), h, (fun i => i), ⟨(rE rfl <| rE rfl <| rW <| rA <| rE rfl <| rX <| rX <| rW <| rA <| rE rfl <| rX <| rX <| rX <| rX <| rX <| rX <| rX <| rX <| rX <| rX <| rX <| rX <| rX <| rX <| rW <| rA <| rN), (hN), rfl, rfl, (roN)⟩⟩
       ·show Exists _
        exact ⟨(false), h, (fun i => i), ⟨(rE rfl <| rE rfl <| rW <| rA <| rE rfl <| rX <| rX <| rW <| rA <| rE rfl <| rX <| rX <| rX <| rX <| rX <| rX <| rX <| rX <| rX <| rX <| rX <| rX <| rX <| rX <| rW <| rA <| rN), (hN), rfl, rfl, (roN)⟩⟩
      ·show Exists _
       exact ⟨(false), h, (fun i => i), ⟨(rE rfl <| rE rfl <| rW <| rA <| rE rfl <| rX <| rX <| rW <| rA <| rE rfl <| rX <| rX <| rX <| rX <| rX <| rX <| rX <| rX <| rX <| rX <| rX <| rX <| rX <| rX <| rW <| rA <| rN), (hN), rfl, rfl, (roN)⟩⟩
   rintro s50 h
   dsimp only [Zu] at h
   rw [cX] at h
   apply iU h <;> intro h
   ·cases h; exact (.p _)
   ·refine Gi (σ := Bool) (fun s139 => (a16 (a16 (a16 (a16 (a8 (a4 (.p (.bool s139) :: a16 (a16 (a16 (a16 ([])))))))))) : List AV)) (fun _ => ([] : List AObj)) (fun s139 => Zf N s139 = some r) (fun _ _ => lb) ?_ ?_
    ·refine Gi (σ := Bool) (fun s149 => (iS s_0 :: iI i :: a2 (.any :: .p (.int .u8 (b1.toNat : Int)) :: a16 (a16 (a16 (a16 (a4 (a2 (.p (.bool s149) :: a16 (a16 (a16 (a16 ([]))))))))))) : List AV)) (fun _ => ([] : List AObj)) (fun s149 => Y7 N (Zf N) s_0 i b1 s149 = some r) (fun _ _ => lb) ?_ ?_
     ·apply iU h <;> intro h
      ·refine cP h Qg p4 fun v151 h => ?_
       apply iU h <;> intro h
       ·refine cP h Qg p4 fun v154 h => ?_
        apply iU h <;> intro h
        ·refine cP h Qg p4 fun v157 h => ?_
         show Exists _
         exact ⟨(v157), h, (fun i => i), ⟨(rE rfl <| rE rfl <| rW <| rA <| rE rfl <| rX <| rX <| rX <| rX <| rX <| rX <| rX <| rX <| rV <| rW <| rE rfl <| rX <| rX <| rX <| rX <| rX <| rX <| rX <| rX <| rN), (hN), rfl, rfl, (roN)⟩⟩
        ·show Exists _
         exact ⟨(false), h, (fun i => i), ⟨(rE rfl <| rE rfl <| rW <| rA <| rE rfl <| rX <| rX <| rX <| rX <| rX <| rX <| rX <| rX <| rV <| rW <| rE rfl <| rX <| rX <| rX <| rX <| rX <| rX <| rX <| rX <| rN), (hN), rfl, rfl, (roN)⟩⟩
       ·show Exists _
        exact ⟨(false), h, (fun i => i), ⟨(rE rfl <| rE rfl <| rW <| rA <| rE rfl <| rX <| rX <| rX <| rX <| rX <| rX <| rX <| rX <| rV <| rW <| rE rfl <| rX <| rX <| rX <| rX <| rX <| rX <| rX <| rX <| rN), (hN), rfl, rfl, (roN)⟩⟩
      ·show Exists _
       exact ⟨(false), h, (fun i => i), ⟨(rE rfl <| rE rfl <| rW <| rA <| rE rfl <| rX <| rX <| rX <| rX <| rX <| rX <| rX <| rX <| rV <| rW <| rE rfl <| rX <| rX <| rX <| rX <| rX <| rX <| rX <| rX <| rN), (hN), rfl, rfl, (roN)⟩⟩
     rintro s149 h
     dsimp only [Y7] at h
     rw [cX] at h
     apply iU h <;> intro h
     ·show Exists _
      exact ⟨(s149), h, (fun i => i), ⟨(rX <| rX <| rX <| rX <| rX <| rX <| rX <| rX <| rX <| rV <| rE rfl <| rX <| rX <| rX <| rX <| rX <| rX <| rX <| rX <| rN), (hN), rfl, rfl, (roN)⟩⟩
     ·refine Gi (σ := Bool) (fun s170 => (iS s_0 :: iI i :: a2 (.any :: .p (.int .u8 (b1.toNat : Int)) :: a16 (a16 (a16 (a16 (a4 (a2 (.p (.bool s170) :: a16 (a16 (a16 (a16 ([]))))))))))) : List AV)) (fun _ => ([] : List AObj)) (fun s170 => Zt N (Zf N) s_0 i b1 s170 = some r) (fun _ _ => lb) ?_ ?_
      ·apply iU h <;> intro h
       ·apply iU h <;> intro h
        ·refine cP h Qg p4 fun v173 h => ?_
         apply iU h <;> intro h
         ·refine cP h Qg p4 fun v176 h => ?_
          apply iU h <;> intro h
          ·refine cP h Qg p4 fun v179 h => ?_
           show Exists _
           exact ⟨(v179), h, (fun i => i), ⟨(rE rfl <| rE rfl <| rW <| rA <| rE rfl <| rX <| rX <| rX <| rX <| rX <| rX <| rX <| rX <| rV <| rW <| rE rfl <| rX <| rX <| rX <| rX <| rX <| rX <| rX <| rX <| rN), (hN), rfl, rfl, (roN)⟩⟩
          ·show Exists _
           exact ⟨(false), h, (fun i => i), ⟨(rE rfl <| rE rfl <| rW <| rA <| rE rfl <| rX <| rX <| rX <| rX <| rX <| rX <| rX <| rX <| rV <| rW <| rE rfl <| rX <| rX <| rX <| rX <| rX <| rX <| rX <| rX <| rN), (hN), rfl, rfl, (roN)⟩⟩
         ·show Exists _
          exact ⟨(false), h, (fun i => i), ⟨(rE rfl <| rE rfl <| rW <| rA <| rE rfl <| rX <| rX <| rX <| rX <| rX <| rX <| rX <| rX <| rV <| rW <| rE rfl <| rX <| rX <| rX <| rX <| rX <| rX <| rX <| rX <| rN), (hN), rfl, rfl, (roN)⟩⟩
        ·show Exists _
         exact ⟨(false), h, (fun i => i), ⟨(rE rfl <| rE rfl <| rW <| rA <| rE rfl <| rX <| rX <| rX <| rX <| rX <| rX <| rX <| rX <| rV <| rW <| rE rfl <| rX <| rX <| rX <| rX <| rX <| rX <| rX <| rX <| rN), (hN), rfl, rfl, (roN)⟩⟩
       ·show Exists _
        exact ⟨(false), h, (fun i => i), ⟨(rE rfl <| rE rfl <| rW <| rA <| rE rfl <| rX <| rX <| rX <| rX <| rX <| rX <| rX <| rX <| rV <| rW <| rE rfl <| rX <| rX <| rX <| rX <| rX <| rX <| rX <| rX <| rN), (hN), rfl, rfl, (roN)⟩⟩
      rintro s170 h
      dsimp only [Zt] at h
      rw [cX] at h
      apply iU h <;> intro h
      ·show Exists _
       exact ⟨(s170), h, (fun i => i), ⟨(rX <| rX <| rX <| rX <| rX <| rX <| rX <| rX <| rX <| rV <| rE rfl <| rX <| rX <| rX <| rX <| rX <| rX <| rX <| rX <| rN), (hN), rfl, rfl, (roN)⟩⟩
      ·apply iU h <;> intro h
       ·refine cP h Qg p4 fun v183 h => ?_
        apply iU h <;> intro h
        ·refine cP h Qg p4 fun v186 h => ?_
         apply iU h <;> intro h
         ·refine cP h Qg p4 fun v189 h => ?_
          show Exists _
          exact ⟨(v189), h, (fun i => i), ⟨(rX <| rX <| rX <| rX <| rX <| rX <| rX <| rX <| rX <| rV <| rE rfl <| rX <| rX <| rX <| rX <| rX <| rX <| rX <| rX <| rN), (hN), rfl, rfl, (roN)⟩⟩
         ·show Exists _
          exact ⟨(false), h, (fun i => i), ⟨(rX <| rX <| rX <| rX <| rX <| rX <| rX <| rX <| rX <| rV <| rE rfl <| rX <| rX <| rX <| rX <| rX <| rX <| rX <| rX <| rN), (hN), rfl, rfl, (roN)⟩⟩
        ·show Exists _
         exact ⟨(false), h, (fun i => i), ⟨(rX <| rX <| rX <| rX <| rX <| rX <| rX <| rX <| rX <| rV <| rE rfl <| rX <| rX <| rX <| rX <| rX <| rX <| rX <| rX <| rN), (hN), rfl, rfl, (roN)⟩⟩
       ·show Exists _
        exact ⟨(false), h, (fun i => i), ⟨(rX <| rX <| rX <| rX <| rX <| rX <| rX <| rX <| rX <| rV <| rE rfl <| rX <| rX <| rX <| rX <| rX <| rX <| rX <| rX <| rN), (hN), rfl, rfl, (roN)⟩⟩
    rintro s139 h
    dsimp only [Zf] at h
    apply iU h <;> intro h
    ·cases h; exact (.p _)
    ·cases h; exact (.p _)
def Yq (N : Nat) (s_0 : List UInt8) : Nat → Int → Option (Bool)
 | 0, _ => none
 | n + 1, i10 =>
  cond (Q7 .lss i10 (s_0.length : Int))
  ((Wg N s_0 i10).bind fun v12 =>
  cond (Q7 .eql v12 0)
  (some false)
  (Yq N s_0 n (IntKind.wrap .i64 (i10 + v12))))
  (some true)
def Zp (N : Nat) (s_0 : List UInt8) : Option (Bool) :=
 Yq N s_0 N 0
theorem Yu {N} {s_0} {r} (h : Zp N s_0 = some r) : Xe Tryz.prog G1 63 [.str s_0] (.bool r) := by
 refine Qc k63 ?_
 unfold Zp at h
 refine lpC (τ := Int) (fun i10 => (iS s_0 :: .any :: .any :: iI i10 :: a8 (a4 (.any :: [])) : List AV)) (fun _ => ([] : List AObj)) (fun n0 i10 => Yq N s_0 n0 i10) (0) h (fun i => i) ⟨(rE rfl <| rW <| rE rfl <| rX <| rV <| rA <| rN), (hN), rfl, rfl, (roN)⟩ fun n0 i10 h => ?_
 simp only [Yq] at h
 rw [cX] at h
 apply iU h <;> intro h
 ·refine cP h Q1e p2 fun v12 h => ?_
  apply iU h <;> intro h
  ·cases h; exact (.p _)
  ·show Exists _
   exact ⟨(n0, (IntKind.wrap .i64 (i10 + v12))), h, Nat.lt_succ_self _, (fun i => i), ⟨(rE rfl <| rW <| rE rfl <| rX <| rV <| rA <| rN), (hN), rfl, rfl, (roN)⟩⟩
 ·cases h; exact (.p _)
def Zh (N : Nat) (v : Q0) : Option (Int) :=
 cond (Q7 .eql v.Kind 15)
 (cond (Q7 .lss v.Kind 1)
 (some 8)
 (cond (Q7 .gtr v.Kind 21)
 (some 8)
 ((X1 N v).bind fun v4 =>
 cond (!v4)
 (some 2)
 (cond (Q7 .gtr ((Q0.rows v.Items).length : Int) 0)
 (some 2)
 ((Xd N v.Kind).bind fun v8 =>
 cond (!v8)
 (cond (Q1q .neq v.Text [])
 (some 2)
 (cond (Q7 .neq (v.Text.length : Int) 16)
 (some 2)
 (cond (Q7 .gtr (v.Text.length : Int) 1048576)
 (some 4)
 (cond (Q7 .eql v.Kind 20)
 ((Zp N v.Text).bind fun v15 =>
 cond (!v15)
 (some 6)
 (cond (Q7 .eql v.Kind 21)
 ((Qp N v.Text).bind fun v19 =>
 cond (!v19)
 (some 6)
 (some 0))
 (some 0)))
 (cond (Q7 .eql v.Kind 21)
 ((Qp N v.Text).bind fun v23 =>
 cond (!v23)
 (some 6)
 (some 0))
 (some 0))))))
 (cond (Q7 .neq (v.Text.length : Int) 16)
 (some 2)
 (cond (Q7 .gtr (v.Text.length : Int) 1048576)
 (some 4)
 (cond (Q7 .eql v.Kind 20)
 ((Zp N v.Text).bind fun v29 =>
 cond (!v29)
 (some 6)
 (cond (Q7 .eql v.Kind 21)
 ((Qp N v.Text).bind fun v33 =>
 cond (!v33)
 (some 6)
 (some 0))
 (some 0)))
 (cond (Q7 .eql v.Kind 21)
 ((Qp N v.Text).bind fun v37 =>
 cond (!v37)
 (some 6)
 (some 0))
 (some 0))))))))))
 (cond (Q7 .lss v.Kind 1)
 (some 8)
 (cond (Q7 .gtr v.Kind 21)
 (some 8)
 ((X1 N v).bind fun v42 =>
 cond (!v42)
 (some 2)
 (cond (Q7 .gtr ((Q0.rows v.Items).length : Int) 0)
 (some 2)
 ((Xd N v.Kind).bind fun v46 =>
 cond (!v46)
 (cond (Q1q .neq v.Text [])
 (some 2)
 (cond (Q7 .eql v.Kind 18)
 (cond (Q7 .neq (v.Text.length : Int) 16)
 (some 2)
 (cond (Q7 .gtr (v.Text.length : Int) 1048576)
 (some 4)
 (cond (Q7 .eql v.Kind 20)
 ((Zp N v.Text).bind fun v54 =>
 cond (!v54)
 (some 6)
 (cond (Q7 .eql v.Kind 21)
 ((Qp N v.Text).bind fun v58 =>
 cond (!v58)
 (some 6)
 (some 0))
 (some 0)))
 (cond (Q7 .eql v.Kind 21)
 ((Qp N v.Text).bind fun v62 =>
 cond (!v62)
 (some 6)
 (some 0))
 (some 0)))))
 (cond (Q7 .gtr (v.Text.length : Int) 1048576)
 (some 4)
 (cond (Q7 .eql v.Kind 20)
 ((Zp N v.Text).bind fun v67 =>
 cond (!v67)
 (some 6)
 (cond (Q7 .eql v.Kind 21)
 ((Qp N v.Text).bind fun v71 =>
 cond (!v71)
 (some 6)
 (some 0))
 (some 0)))
 (cond (Q7 .eql v.Kind 21)
 ((Qp N v.Text).bind fun v75 =>
 cond (!v75)
 (some 6)
 (some 0))
 (some 0))))))
 (cond (Q7 .eql v.Kind 18)
 (cond (Q7 .neq (v.Text.length : Int) 16)
 (some 2)
 (cond (Q7 .gtr (v.Text.length : Int) 1048576)
 (some 4)
 (cond (Q7 .eql v.Kind 20)
 ((Zp N v.Text).bind fun v82 =>
 cond (!v82)
 (some 6)
 (cond (Q7 .eql v.Kind 21)
 ((Qp N v.Text).bind fun v86 =>
 cond (!v86)
 (some 6)
 (some 0))
 (some 0)))
 (cond (Q7 .eql v.Kind 21)
 ((Qp N v.Text).bind fun v90 =>
 cond (!v90)
 (some 6)
 (some 0))
 (some 0)))))
 (cond (Q7 .gtr (v.Text.length : Int) 1048576)
 (some 4)
 (cond (Q7 .eql v.Kind 20)
 ((Zp N v.Text).bind fun v95 =>
 cond (!v95)
 (some 6)
 (cond (Q7 .eql v.Kind 21)
 ((Qp N v.Text).bind fun v99 =>
 cond (!v99)
 (some 6)
 (some 0))
 (some 0)))
 (cond (Q7 .eql v.Kind 21)
 ((Qp N v.Text).bind fun v103 =>
 cond (!v103)
 (some 6)
 (some 0))
 (some 0))))))))))
theorem X7 {N} {v} {r} (h : Zh N v = some r) : Xe Tryz.prog G1 51 [.agg (Q0.cells v)] (.int .i64 r) := by
 refine Qc k51 ?_
 unfold Zh at h
 rw [cX, cY] at h
 apply iU h <;> intro h
 ·apply iU h <;> intro h
  ·cases h; exact (.p _)
  ·apply iU h <;> intro h
   ·cases h; exact (.p _)
   ·refine cP h Um (.cons q4 .nil) fun v4 h => ?_
    apply iU h <;> intro h
    ·cases h; exact (.p _)
    ·apply iU h <;> intro h
     ·cases h; exact (.p _)
     ·refine cP h Ux p1 fun v8 h => ?_
      apply iU h <;> intro h
      ·apply iU h <;> intro h
       ·cases h; exact (.p _)
       ·apply iU h <;> intro h
        ·cases h; exact (.p _)
        ·apply iU h <;> intro h
         ·cases h; exact (.p _)
         ·apply iU h <;> intro h
          ·refine cP h Yu p1 fun v15 h => ?_
           apply iU h <;> intro h
           ·cases h; exact (.p _)
           ·apply iU h <;> intro h
            ·refine cP h Qu p1 fun v19 h => ?_
             apply iU h <;> intro h
             ·cases h; exact (.p _)
             ·cases h; exact (.p _)
            ·cases h; exact (.p _)
          ·apply iU h <;> intro h
           ·refine cP h Qu p1 fun v23 h => ?_
            apply iU h <;> intro h
            ·cases h; exact (.p _)
            ·cases h; exact (.p _)
           ·cases h; exact (.p _)
      ·apply iU h <;> intro h
       ·cases h; exact (.p _)
       ·apply iU h <;> intro h
        ·cases h; exact (.p _)
        ·apply iU h <;> intro h
         ·refine cP h Yu p1 fun v29 h => ?_
          apply iU h <;> intro h
          ·cases h; exact (.p _)
          ·apply iU h <;> intro h
           ·refine cP h Qu p1 fun v33 h => ?_
            apply iU h <;> intro h
            ·cases h; exact (.p _)
            ·cases h; exact (.p _)
           ·cases h; exact (.p _)
         ·apply iU h <;> intro h
          ·refine cP h Qu p1 fun v37 h => ?_
           apply iU h <;> intro h
           ·cases h; exact (.p _)
           ·cases h; exact (.p _)
          ·cases h; exact (.p _)
 ·apply iU h <;> intro h
  ·cases h; exact (.p _)
  ·apply iU h <;> intro h
   ·cases h; exact (.p _)
   ·refine cP h Um (.cons q4 .nil) fun v42 h => ?_
    apply iU h <;> intro h
    ·cases h; exact (.p _)
    ·apply iU h <;> intro h
     ·cases h; exact (.p _)
     ·refine cP h Ux p1 fun v46 h => ?_
      apply iU h <;> intro h
      ·apply iU h <;> intro h
       ·cases h; exact (.p _)
       ·apply iU h <;> intro h
        ·apply iU h <;> intro h
         ·cases h; exact (.p _)
         ·apply iU h <;> intro h
          ·cases h; exact (.p _)
          ·apply iU h <;> intro h
           ·refine cP h Yu p1 fun v54 h => ?_
            apply iU h <;> intro h
            ·cases h; exact (.p _)
            ·apply iU h <;> intro h
             ·refine cP h Qu p1 fun v58 h => ?_
              apply iU h <;> intro h
              ·cases h; exact (.p _)
              ·cases h; exact (.p _)
             ·cases h; exact (.p _)
           ·apply iU h <;> intro h
            ·refine cP h Qu p1 fun v62 h => ?_
             apply iU h <;> intro h
             ·cases h; exact (.p _)
             ·cases h; exact (.p _)
            ·cases h; exact (.p _)
        ·apply iU h <;> intro h
         ·cases h; exact (.p _)
         ·apply iU h <;> intro h
          ·refine cP h Yu p1 fun v67 h => ?_
           apply iU h <;> intro h
           ·cases h; exact (.p _)
           ·apply iU h <;> intro h
            ·refine cP h Qu p1 fun v71 h => ?_
             apply iU h <;> intro h
             ·cases h; exact (.p _)
             ·cases h; exact (.p _)
            ·cases h; exact (.p _)
          ·apply iU h <;> intro h
           ·refine cP h Qu p1 fun v75 h => ?_
            apply iU h <;> intro h
            ·cases h; exact (.p _)
            ·cases h; exact (.p _)
           ·cases h; exact (.p _)
      ·apply iU h <;> intro h
       ·apply iU h <;> intro h
        ·cases h; exact (.p _)
        ·apply iU h <;> intro h
         ·cases h; exact (.p _)
         ·apply iU h <;> intro h
          ·refine cP h Yu p1 fun v82 h => ?_
           apply iU h <;> intro h
           ·cases h; exact (.p _)
           ·apply iU h <;> intro h
            ·refine cP h Qu p1 fun v86 h => ?_
             apply iU h <;> intro h
             ·cases h; exact (.p _)
             ·cases h; exact (.p _)
            ·cases h; exact (.p _)
          ·apply iU h <;> intro h
           ·refine cP h Qu p1 fun v90 h => ?_
            apply iU h <;> intro h
            ·cases h; exact (.p _)
            ·cases h; exact (.p _)
           ·cases h; exact (.p _)
       ·apply iU h <;> intro h
        ·cases h; exact (.p _)
        ·apply iU h <;> intro h
         ·refine cP h Yu p1 fun v95 h => ?_
          apply iU h <;> intro h
          ·cases h; exact (.p _)
          ·apply iU h <;> intro h
           ·refine cP h Qu p1 fun v99 h => ?_
            apply iU h <;> intro h
            ·cases h; exact (.p _)
            ·cases h; exact (.p _)
           ·cases h; exact (.p _)
         ·apply iU h <;> intro h
          ·refine cP h Qu p1 fun v103 h => ?_
           apply iU h <;> intro h
           ·cases h; exact (.p _)
           ·cases h; exact (.p _)
          ·cases h; exact (.p _)
def Xl (_N : Nat) (v : Q0) : Option (Bool) :=
 cond (Q7 .eql v.Kind 11)
 (cond (Q7 .eql (Q3l .u64 v.N' 2139095040) 2139095040)
 (cond (Q7 .neq (Q3l .u64 v.N' 8388607) 0)
 (some true)
 (cond (Q7 .eql v.Kind 12)
 (cond (Q7 .eql (Q3l .u64 v.N' 9218868437227405312) 9218868437227405312)
 (some (Q7 .neq (Q3l .u64 v.N' 4503599627370495) 0))
 (some false))
 (some false)))
 (cond (Q7 .eql v.Kind 12)
 (cond (Q7 .eql (Q3l .u64 v.N' 9218868437227405312) 9218868437227405312)
 (some (Q7 .neq (Q3l .u64 v.N' 4503599627370495) 0))
 (some false))
 (some false)))
 (cond (Q7 .eql v.Kind 12)
 (cond (Q7 .eql (Q3l .u64 v.N' 9218868437227405312) 9218868437227405312)
 (some (Q7 .neq (Q3l .u64 v.N' 4503599627370495) 0))
 (some false))
 (some false))
theorem J1 {N} {v} {r} (h : Xl N v = some r) : Xe Tryz.prog G1 79 [.agg (Q0.cells v)] (.bool r) := by
 refine Qc k79 ?_
 unfold Xl at h
 rw [cX] at h
 apply iU h <;> intro h
 ·apply iU h <;> intro h
  ·apply iU h <;> intro h
   ·cases h; exact (.p _)
   ·apply iU h <;> intro h
    ·apply iU h <;> intro h
     ·cases h; exact (.p _)
     ·cases h; exact (.p _)
    ·cases h; exact (.p _)
  ·apply iU h <;> intro h
   ·apply iU h <;> intro h
    ·cases h; exact (.p _)
    ·cases h; exact (.p _)
   ·cases h; exact (.p _)
 ·apply iU h <;> intro h
  ·apply iU h <;> intro h
   ·cases h; exact (.p _)
   ·cases h; exact (.p _)
  ·cases h; exact (.p _)
def Yi (rz : Q0 → Q0 → Option (Bool)) (N : Nat) (a : Q0) (b : Q0) : Nat → Int → Option (Bool)
 | 0, _ => none
 | n + 1, i28 =>
  cond (Q7 .lss i28 ((Q0.rows a.Items).length : Int))
  ((idx a.Items i28).bind fun y30 =>
  (idx b.Items i28).bind fun y32 =>
  (rz y30 y32).bind fun v34 =>
  cond (!v34)
  (some false)
  (Yi rz N a b n (IntKind.wrap .i64 (i28 + 1))))
  (some true)
def Yk (rz : Q0 → Q0 → Option (Bool)) (N : Nat) (a : Q0) (b : Q0) : Nat → Int → Option (Bool)
 | 0, _ => none
 | n + 1, i56 =>
  cond (Q7 .lss i56 ((Q0.rows a.Items).length : Int))
  ((idx a.Items i56).bind fun y58 =>
  (idx b.Items i56).bind fun y60 =>
  (rz y58 y60).bind fun v62 =>
  cond (!v62)
  (some false)
  (Yk rz N a b n (IntKind.wrap .i64 (i56 + 1))))
  (some true)
def V6 (rz : Q0 → Q0 → Option (Bool)) (N : Nat) (a : Q0) (b : Q0) : Option (Bool) :=
 cond (Q7 .neq a.Kind b.Kind)
 (some false)
 (cond (Q7 .neq a.N' b.N')
 ((Xl N a).bind fun v3 =>
 cond v3
 ((Xl N b).bind fun v6 =>
 cond (!v6)
 (some false)
 (cond (Q1q .neq a.Text b.Text)
 (some false)
 (cond (Q7 .neq ((Q0.rows a.Items).length : Int) ((Q0.rows b.Items).length : Int))
 (some false)
 (Yi rz N a b N 0))))
 (some false))
 (cond (Q1q .neq a.Text b.Text)
 (some false)
 (cond (Q7 .neq ((Q0.rows a.Items).length : Int) ((Q0.rows b.Items).length : Int))
 (some false)
 (Yk rz N a b N 0))))
theorem Q0j {rz : Q0 → Q0 → Option (Bool)} (hy1 : ∀ {a} {b} {r}, rz a b = some r → Xe Tryz.prog G1 65 [.agg (Q0.cells a), .agg (Q0.cells b)] (.bool r)) {N} {a} {b} {r} (h : V6 rz N a b = some r) : Xe Tryz.prog G1 65 [.agg (Q0.cells a), .agg (Q0.cells b)] (.bool r) := by
 refine Qc k65 ?_
 unfold V6 at h
 rw [cX, cY] at h
 apply iU h <;> intro h
 ·cases h; exact (.p _)
 ·apply iU h <;> intro h
  ·refine cP h J1 (.cons q4 .nil) fun v3 h => ?_
   apply iU h <;> intro h
   ·refine cP h J1 (.cons q4 .nil) fun v6 h => ?_
    apply iU h <;> intro h
    ·cases h; exact (.p _)
    ·apply iU h <;> intro h
     ·cases h; exact (.p _)
     ·apply iU h <;> intro h
      ·cases h; exact (.p _)
      ·refine lpC (τ := Int) (fun i28 => (.any :: .any :: .ptr 0 0 :: .ptr 1 0 :: .any :: iI i28 :: a16 (a16 (a16 (a8 ([])))) : List AV)) (fun _ => (.cells (iI a.Kind :: iW a.N' :: iS a.Text :: .p (.slice 4 (Q0.rows a.Items)) :: []) :: .cells (iI b.Kind :: iW b.N' :: iS b.Text :: .p (.slice 4 (Q0.rows b.Items)) :: []) :: [] : List AObj)) (fun n0 i28 => Yi rz N a b n0 i28) (0) h (fun i => i) ⟨(rW <| rE rfl <| rE rfl <| rA <| rE rfl <| rX <| rX <| rX <| rX <| rX <| rX <| rX <| rN), (hE rfl <| hE rfl <| hN), rfl, rfl, (roE rfl <| roE rfl <| roN)⟩ fun n0 i28 h => ?_
       simp only [Yi] at h
       rw [cX] at h
       apply iU h <;> intro h
       ·refine Qb ?_
        refine Q0.xR h fun y30 h => ?_
        refine Q0.xR h fun y32 h => ?_
        refine cD h hy1 (.cons q4 (.cons q4 .nil)) fun v34 h => ?_
        apply iU h <;> intro h
        ·cases h; exact (.p _)
        ·show Exists _
         exact ⟨(n0, (IntKind.wrap .i64 (i28 + 1))), h, Nat.lt_succ_self _, (fun i => i), ⟨(rW <| rE rfl <| rE rfl <| rA <| rE rfl <| rX <| rX <| rX <| rX <| rX <| rX <| rX <| rN), (hE rfl <| hE rfl <| hN), rfl, rfl, (roE rfl <| roE rfl <| roN)⟩⟩
       ·cases h; exact (.p _)
   ·cases h; exact (.p _)
  ·apply iU h <;> intro h
   ·cases h; exact (.p _)
   ·apply iU h <;> intro h
    ·cases h; exact (.p _)
    ·refine lpC (τ := Int) (fun i56 => (.any :: .any :: .ptr 0 0 :: .ptr 1 0 :: .any :: iI i56 :: a16 (a16 (a16 (a8 ([])))) : List AV)) (fun _ => (.cells (iI a.Kind :: iW a.N' :: iS a.Text :: .p (.slice 4 (Q0.rows a.Items)) :: []) :: .cells (iI b.Kind :: iW b.N' :: iS b.Text :: .p (.slice 4 (Q0.rows b.Items)) :: []) :: [] : List AObj)) (fun n1 i56 => Yk rz N a b n1 i56) (0) h (fun i => i) ⟨(rW <| rE rfl <| rE rfl <| rA <| rE rfl <| rX <| rX <| rX <| rX <| rX <| rX <| rX <| rN), (hE rfl <| hE rfl <| hN), rfl, rfl, (roE rfl <| roE rfl <| roN)⟩ fun n1 i56 h => ?_
     simp only [Yk] at h
     rw [cX] at h
     apply iU h <;> intro h
     ·refine Qb ?_
      refine Q0.xR h fun y58 h => ?_
      refine Q0.xR h fun y60 h => ?_
      refine cD h hy1 (.cons q4 (.cons q4 .nil)) fun v62 h => ?_
      apply iU h <;> intro h
      ·cases h; exact (.p _)
      ·show Exists _
       exact ⟨(n1, (IntKind.wrap .i64 (i56 + 1))), h, Nat.lt_succ_self _, (fun i => i), ⟨(rW <| rE rfl <| rE rfl <| rA <| rE rfl <| rX <| rX <| rX <| rX <| rX <| rX <| rX <| rN), (hE rfl <| hE rfl <| hN), rfl, rfl, (roE rfl <| roE rfl <| roN)⟩⟩
     ·cases h; exact (.p _)
def Yl : Nat → Q0 → Q0 → Option (Bool)
 | 0 => fun _ _ => none
 | N + 1 => V6 (Yl N) N
theorem Q0h {N} {a} {b} {r} (h : Yl N a b = some r) : Xe Tryz.prog G1 65 [.agg (Q0.cells a), .agg (Q0.cells b)] (.bool r) := by
 induction N generalizing a b r with
 | zero => simp [Yl] at h
 | succ N ih => exact Q0j (fun h => ih h) h
end
end
end Go.Av
