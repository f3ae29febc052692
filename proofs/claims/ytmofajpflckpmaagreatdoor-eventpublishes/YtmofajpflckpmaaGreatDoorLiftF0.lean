/- The law. Part of a proof of a given statement: for every input the law returns true and the arguments read as before; no condition beyond the given row. -/
import Derived.Test.YtmofajpflckpmaaGreatDoorLiftTy
import Derived.Test.YtmofajpflckpmaaGreatDoorChks
import Derived.Test.YtmofajpflckpmaaGreatDoorSeat1
import Derived.Test.YtmofajpflckpmaaGreatDoorLiftG
import Derived.Test.YtmofajpflckpmaaGreatDoorKn1
import Derived.Test.YtmofajpflckpmaaGreatDoorLift2
namespace Go.Av
noncomputable section
open Go.Proofs
set_option maxRecDepth 100000
set_option maxHeartbeats 4000000
attribute [local irreducible] Xk Zz Q7y Q7v Qh3 Qfx Q8u
section
theorem Qgi : Xh Tryz.prog G1 4 [] (.bool true) := U9 Qa7 (N := 4000) (d := 60) (by kernel_rfl)
theorem Q5p : Xh Tryz.prog G1 84 [.agg [.int .i64 23, .bool false, .int .i64 0, .bool false, .bool false, .bool false, .int .i64 0, .int .i64 0, .int .i64 0, .int .i64 0, .bool false, .int .i64 0, .int .i64 0, .int .i64 0, .str [], .str []]] (.tuple [.str [2, 23], .int .i64 0]) := U9 Qa7 (N := 4000) (d := 60) (by kernel_rfl)

def U7 : List (Int × X3) := [(1, (⟨[109, 113, 116, 116, 51]⟩ : X3)), (2, (⟨[109, 113, 116, 116, 53]⟩ : X3)), (3, (⟨[115, 110]⟩ : X3)), (4, (⟨[97, 109, 113, 112]⟩ : X3))]
theorem Q1o : Xh Tryz.prog G1 32 [] (.pmap (Qig (fun v => .agg (X3.cells v)) U7)) := U9 Qa7 (N := 2000) (d := 60) (by kernel_rfl)
def Y5 (_N : Nat) (n_0 : Int) (m : Int) : Option (Int) :=
 cond (Qc .lss m 1)
 (some 0)
 (cond (!((m : Int) == 0)) (cond (Qc .lss ((n_0 : Int).tmod m) 0)
 (some (IntKind.wrap .i64 (((n_0 : Int).tmod m) + m)))
 (some ((n_0 : Int).tmod m))) none)
theorem V2 {N} {n_0} {m} {r} (h : Y5 N n_0 m = some r) : Xh Tryz.prog G1 5 [.int .i64 n_0, .int .i64 m] (.int .i64 r) := by
 refine Q7 k5 ?_
 unfold Y5 at h
 rw [cX] at h
 apply iU h <;> intro h
 ·cases h; exact (.p _)
 ·refine kU h fun h => ?_
  apply iU h <;> intro h
  ·cases h; exact (.p _)
  ·cases h; exact (.p _)
def Qv (_N : Nat) (s_0 : List UInt8) (at_1 : Int) : Option (Int × Bool) :=
 cond (Qc .geq at_1 (s_0.length : Int))
 (some (0, false))
 ((idx s_0 at_1).bind fun b2 =>
 cond (Qc .lss (b2.toNat : Int) 128)
 (some (0, false))
 ((idx s_0 at_1).bind fun b5 =>
 cond (Qc .gtr (b5.toNat : Int) 191)
 (some (0, false))
 ((idx s_0 at_1).bind fun b8 =>
 some ((IntKind.wrap .i64 ((IntKind.wrap .i64 (b8.toNat : Int)) - 128)), true))))
theorem Z3 {N} {s_0} {at_1} {r} (h : Qv N s_0 at_1 = some r) : Xh Tryz.prog G1 74 [.str s_0, .int .i64 at_1] (.tuple [.int .i64 r.1, .bool r.2]) := by
 refine Q7 k74 ?_
 unfold Qv at h
 rw [cX] at h
 apply iU h <;> intro h
 ·obtain rfl := Z2 h; exact u2
 ·refine xB h fun b2 h => ?_
  apply iU h <;> intro h
  ·obtain rfl := Z2 h; exact u2
  ·refine xB h fun b5 h => ?_
   apply iU h <;> intro h
   ·obtain rfl := Z2 h; exact u2
   ·refine xB h fun b8 h => ?_
    obtain rfl := Z2 h; exact u2
def Qn (N : Nat) (s_0 : List UInt8) (at_1 : Int) : Nat → Int → Int → Option (Int × Int)
 | 0, _, _ => none
 | n + 1, n15, i16 =>
  cond (Qc .lss i16 2)
  ((Qv N s_0 (IntKind.wrap .i64 (at_1 + i16))).bind fun v18 =>
  cond (!v18.2)
  (some (0, 0))
  (Qn N s_0 at_1 n (IntKind.wrap .i64 ((IntKind.wrap .i64 (64 * n15)) + v18.1)) (IntKind.wrap .i64 (i16 + 1))))
  (cond (Qc .lss n15 128)
  (some (0, 0))
  (cond (Qc .gtr n15 1114111)
  (some (0, 0))
  (cond (Qc .geq n15 55296)
  (cond (Qc .leq n15 57343)
  (some (0, 0))
  (some (n15, 2)))
  (some (n15, 2)))))
def Qo (N : Nat) (s_0 : List UInt8) (at_1 : Int) : Nat → Int → Int → Option (Int × Int)
 | 0, _, _ => none
 | n + 1, n36, i37 =>
  cond (Qc .lss i37 3)
  ((Qv N s_0 (IntKind.wrap .i64 (at_1 + i37))).bind fun v39 =>
  cond (!v39.2)
  (some (0, 0))
  (Qo N s_0 at_1 n (IntKind.wrap .i64 ((IntKind.wrap .i64 (64 * n36)) + v39.1)) (IntKind.wrap .i64 (i37 + 1))))
  (cond (Qc .lss n36 2048)
  (some (0, 0))
  (cond (Qc .gtr n36 1114111)
  (some (0, 0))
  (cond (Qc .geq n36 55296)
  (cond (Qc .leq n36 57343)
  (some (0, 0))
  (some (n36, 3)))
  (some (n36, 3)))))
def Qp (N : Nat) (s_0 : List UInt8) (at_1 : Int) : Nat → Int → Int → Option (Int × Int)
 | 0, _, _ => none
 | n + 1, n57, i58 =>
  cond (Qc .lss i58 4)
  ((Qv N s_0 (IntKind.wrap .i64 (at_1 + i58))).bind fun v60 =>
  cond (!v60.2)
  (some (0, 0))
  (Qp N s_0 at_1 n (IntKind.wrap .i64 ((IntKind.wrap .i64 (64 * n57)) + v60.1)) (IntKind.wrap .i64 (i58 + 1))))
  (cond (Qc .lss n57 65536)
  (some (0, 0))
  (cond (Qc .gtr n57 1114111)
  (some (0, 0))
  (cond (Qc .geq n57 55296)
  (cond (Qc .leq n57 57343)
  (some (0, 0))
  (some (n57, 4)))
  (some (n57, 4)))))
def Zj (N : Nat) (s_0 : List UInt8) (at_1 : Int) : Nat → Int → Int → Option (Int × Int)
 | 0, _, _ => none
 | n + 1, n78, i79 =>
  cond (Qc .lss i79 4)
  ((Qv N s_0 (IntKind.wrap .i64 (at_1 + i79))).bind fun v81 =>
  cond (!v81.2)
  (some (0, 0))
  (Zj N s_0 at_1 n (IntKind.wrap .i64 ((IntKind.wrap .i64 (64 * n78)) + v81.1)) (IntKind.wrap .i64 (i79 + 1))))
  (cond (Qc .lss n78 65536)
  (some (0, 0))
  (cond (Qc .gtr n78 1114111)
  (some (0, 0))
  (cond (Qc .geq n78 55296)
  (cond (Qc .leq n78 57343)
  (some (0, 0))
  (some (n78, 4)))
  (some (n78, 4)))))
def Zl (N : Nat) (s_0 : List UInt8) (at_1 : Int) : Nat → Int → Int → Option (Int × Int)
 | 0, _, _ => none
 | n + 1, n99, i100 =>
  cond (Qc .lss i100 3)
  ((Qv N s_0 (IntKind.wrap .i64 (at_1 + i100))).bind fun v102 =>
  cond (!v102.2)
  (some (0, 0))
  (Zl N s_0 at_1 n (IntKind.wrap .i64 ((IntKind.wrap .i64 (64 * n99)) + v102.1)) (IntKind.wrap .i64 (i100 + 1))))
  (cond (Qc .lss n99 2048)
  (some (0, 0))
  (cond (Qc .gtr n99 1114111)
  (some (0, 0))
  (cond (Qc .geq n99 55296)
  (cond (Qc .leq n99 57343)
  (some (0, 0))
  (some (n99, 3)))
  (some (n99, 3)))))
def Zm (N : Nat) (s_0 : List UInt8) (at_1 : Int) : Nat → Int → Int → Option (Int × Int)
 | 0, _, _ => none
 | n + 1, n120, i121 =>
  cond (Qc .lss i121 4)
  ((Qv N s_0 (IntKind.wrap .i64 (at_1 + i121))).bind fun v123 =>
  cond (!v123.2)
  (some (0, 0))
  (Zm N s_0 at_1 n (IntKind.wrap .i64 ((IntKind.wrap .i64 (64 * n120)) + v123.1)) (IntKind.wrap .i64 (i121 + 1))))
  (cond (Qc .lss n120 65536)
  (some (0, 0))
  (cond (Qc .gtr n120 1114111)
  (some (0, 0))
  (cond (Qc .geq n120 55296)
  (cond (Qc .leq n120 57343)
  (some (0, 0))
  (some (n120, 4)))
  (some (n120, 4)))))
def Zn (N : Nat) (s_0 : List UInt8) (at_1 : Int) : Nat → Int → Int → Option (Int × Int)
 | 0, _, _ => none
 | n + 1, n141, i142 =>
  cond (Qc .lss i142 4)
  ((Qv N s_0 (IntKind.wrap .i64 (at_1 + i142))).bind fun v144 =>
  cond (!v144.2)
  (some (0, 0))
  (Zn N s_0 at_1 n (IntKind.wrap .i64 ((IntKind.wrap .i64 (64 * n141)) + v144.1)) (IntKind.wrap .i64 (i142 + 1))))
  (cond (Qc .lss n141 65536)
  (some (0, 0))
  (cond (Qc .gtr n141 1114111)
  (some (0, 0))
  (cond (Qc .geq n141 55296)
  (cond (Qc .leq n141 57343)
  (some (0, 0))
  (some (n141, 4)))
  (some (n141, 4)))))
def Zk (N : Nat) (s_0 : List UInt8) (at_1 : Int) : Option (Int × Int) :=
 (idx s_0 at_1).bind fun b1 =>
 cond (Qc .lss (IntKind.wrap .i64 (b1.toNat : Int)) 128)
 (some ((IntKind.wrap .i64 (b1.toNat : Int)), 1))
 (cond (Qc .geq (IntKind.wrap .i64 (b1.toNat : Int)) 192)
 (cond (Qc .lss (IntKind.wrap .i64 (b1.toNat : Int)) 224)
 (Qn N s_0 at_1 N (IntKind.wrap .i64 ((IntKind.wrap .i64 (b1.toNat : Int)) - 192)) 1)
 (cond (Qc .geq (IntKind.wrap .i64 (b1.toNat : Int)) 224)
 (cond (Qc .lss (IntKind.wrap .i64 (b1.toNat : Int)) 240)
 (Qo N s_0 at_1 N (IntKind.wrap .i64 ((IntKind.wrap .i64 (b1.toNat : Int)) - 224)) 1)
 (cond (Qc .geq (IntKind.wrap .i64 (b1.toNat : Int)) 240)
 (cond (Qc .lss (IntKind.wrap .i64 (b1.toNat : Int)) 248)
 (Qp N s_0 at_1 N (IntKind.wrap .i64 ((IntKind.wrap .i64 (b1.toNat : Int)) - 240)) 1)
 (some (0, 0)))
 (some (0, 0))))
 (cond (Qc .geq (IntKind.wrap .i64 (b1.toNat : Int)) 240)
 (cond (Qc .lss (IntKind.wrap .i64 (b1.toNat : Int)) 248)
 (Zj N s_0 at_1 N (IntKind.wrap .i64 ((IntKind.wrap .i64 (b1.toNat : Int)) - 240)) 1)
 (some (0, 0)))
 (some (0, 0)))))
 (cond (Qc .geq (IntKind.wrap .i64 (b1.toNat : Int)) 224)
 (cond (Qc .lss (IntKind.wrap .i64 (b1.toNat : Int)) 240)
 (Zl N s_0 at_1 N (IntKind.wrap .i64 ((IntKind.wrap .i64 (b1.toNat : Int)) - 224)) 1)
 (cond (Qc .geq (IntKind.wrap .i64 (b1.toNat : Int)) 240)
 (cond (Qc .lss (IntKind.wrap .i64 (b1.toNat : Int)) 248)
 (Zm N s_0 at_1 N (IntKind.wrap .i64 ((IntKind.wrap .i64 (b1.toNat : Int)) - 240)) 1)
 (some (0, 0)))
 (some (0, 0))))
 (cond (Qc .geq (IntKind.wrap .i64 (b1.toNat : Int)) 240)
 (cond (Qc .lss (IntKind.wrap .i64 (b1.toNat : Int)) 248)
 (Zn N s_0 at_1 N (IntKind.wrap .i64 ((IntKind.wrap .i64 (b1.toNat : Int)) - 240)) 1)
 (some (0, 0)))
 (some (0, 0)))))
theorem Uv {N} {s_0} {at_1} {r} (h : Zk N s_0 at_1 = some r) : Xh Tryz.prog G1 48 [.str s_0, .int .i64 at_1] (.tuple [.int .i64 r.1, .int .i64 r.2]) := by
 refine Q7 k48 ?_
 unfold Zk at h
 rw [cX] at h
 refine xB h fun b1 h => ?_
 apply iU h <;> intro h
 ·obtain rfl := Z2 h; exact u2
 ·apply iU h <;> intro h
  ·apply iU h <;> intro h
   ·refine lpC (τ := Int × Int) (fun ⟨n15, i16⟩ => (iS s_0 :: iI at_1 :: a4 (iI n15 :: iI 2 :: iI 128 :: iI i16 :: a16 (a16 (a16 (a16 (a8 (.any :: [])))))) : List AV)) (fun ⟨_, _⟩ => ([] : List AObj)) (fun n0 ⟨n15, i16⟩ => Qn N s_0 at_1 n0 n15 i16) ((IntKind.wrap .i64 ((IntKind.wrap .i64 (b1.toNat : Int)) - 192)), 1) h (fun i => i) ⟨(rE rfl <| rE rfl <| rV <| rE rfl <| rE rfl <| rE rfl <| rE rfl <| rX <| rX <| rX <| rX <| rX <| rX <| rX <| rX <| rX <| rA <| rN), (hN), rfl, rfl, (roN)⟩ fun n0 ⟨n15, i16⟩ h => ?_
    first | rw [Qn] at h | simp only [Qn] at h
    rw [cX] at h
    apply iU h <;> intro h
    ·refine cP h Z3 p2 fun v18 h => ?_
     apply iU h <;> intro h
     ·obtain rfl := Z2 h; exact u2
     ·show Exists _
      exact ⟨(n0, (IntKind.wrap .i64 ((IntKind.wrap .i64 (64 * n15)) + v18.1)), (IntKind.wrap .i64 (i16 + 1))), h, Nat.lt_succ_self _, (fun i => i), ⟨(rE rfl <| rE rfl <| rV <| rE rfl <| rE rfl <| rE rfl <| rE rfl <| rX <| rX <| rX <| rX <| rX <| rX <| rX <| rX <| rX <| rA <| rN), (hN), rfl, rfl, (roN)⟩⟩
    ·apply iU h <;> intro h
     ·obtain rfl := Z2 h; exact u2
     ·apply iU h <;> intro h
      ·obtain rfl := Z2 h; exact u2
      ·apply iU h <;> intro h
       ·apply iU h <;> intro h
        ·obtain rfl := Z2 h; exact u2
        ·obtain rfl := Z2 h; exact u2
       ·obtain rfl := Z2 h; exact u2
   ·apply iU h <;> intro h
    ·apply iU h <;> intro h
     ·refine lpC (τ := Int × Int) (fun ⟨n36, i37⟩ => (iS s_0 :: iI at_1 :: a4 (iI n36 :: iI 3 :: iI 2048 :: iI i37 :: a16 (a16 (a16 (a16 (a8 (.any :: [])))))) : List AV)) (fun ⟨_, _⟩ => ([] : List AObj)) (fun n1 ⟨n36, i37⟩ => Qo N s_0 at_1 n1 n36 i37) ((IntKind.wrap .i64 ((IntKind.wrap .i64 (b1.toNat : Int)) - 224)), 1) h (fun i => i) ⟨(rE rfl <| rE rfl <| rV <| rE rfl <| rE rfl <| rE rfl <| rE rfl <| rX <| rX <| rX <| rX <| rX <| rX <| rX <| rX <| rX <| rA <| rN), (hN), rfl, rfl, (roN)⟩ fun n1 ⟨n36, i37⟩ h => ?_
      first | rw [Qo] at h | simp only [Qo] at h
      rw [cX] at h
      apply iU h <;> intro h
      ·refine cP h Z3 p2 fun v39 h => ?_
       apply iU h <;> intro h
       ·obtain rfl := Z2 h; exact u2
       ·show Exists _
        exact ⟨(n1, (IntKind.wrap .i64 ((IntKind.wrap .i64 (64 * n36)) + v39.1)), (IntKind.wrap .i64 (i37 + 1))), h, Nat.lt_succ_self _, (fun i => i), ⟨(rE rfl <| rE rfl <| rV <| rE rfl <| rE rfl <| rE rfl <| rE rfl <| rX <| rX <| rX <| rX <| rX <| rX <| rX <| rX <| rX <| rA <| rN), (hN), rfl, rfl, (roN)⟩⟩
      ·apply iU h <;> intro h
       ·obtain rfl := Z2 h; exact u2
       ·apply iU h <;> intro h
        ·obtain rfl := Z2 h; exact u2
        ·apply iU h <;> intro h
         ·apply iU h <;> intro h
          ·obtain rfl := Z2 h; exact u2
          ·obtain rfl := Z2 h; exact u2
         ·obtain rfl := Z2 h; exact u2
     ·apply iU h <;> intro h
      ·apply iU h <;> intro h
       ·refine lpC (τ := Int × Int) (fun ⟨n57, i58⟩ => (iS s_0 :: iI at_1 :: a4 (iI n57 :: iI 4 :: iI 65536 :: iI i58 :: a16 (a16 (a16 (a16 (a8 (.any :: [])))))) : List AV)) (fun ⟨_, _⟩ => ([] : List AObj)) (fun n2 ⟨n57, i58⟩ => Qp N s_0 at_1 n2 n57 i58) ((IntKind.wrap .i64 ((IntKind.wrap .i64 (b1.toNat : Int)) - 240)), 1) h (fun i => i) ⟨(rE rfl <| rE rfl <| rV <| rE rfl <| rE rfl <| rE rfl <| rE rfl <| rX <| rX <| rX <| rX <| rX <| rX <| rX <| rX <| rX <| rA <| rN), (hN), rfl, rfl, (roN)⟩ fun n2 ⟨n57, i58⟩ h => ?_
        first | rw [Qp] at h | simp only [Qp] at h
        rw [cX] at h
        apply iU h <;> intro h
        ·refine cP h Z3 p2 fun v60 h => ?_
         apply iU h <;> intro h
         ·obtain rfl := Z2 h; exact u2
         ·show Exists _
          exact ⟨(n2, (IntKind.wrap .i64 ((IntKind.wrap .i64 (64 * n57)) + v60.1)), (IntKind.wrap .i64 (i58 + 1))), h, Nat.lt_succ_self _, (fun i => i), ⟨(rE rfl <| rE rfl <| rV <| rE rfl <| rE rfl <| rE rfl <| rE rfl <| rX <| rX <| rX <| rX <| rX <| rX <| rX <| rX <| rX <| rA <| rN), (hN), rfl, rfl, (roN)⟩⟩
        ·apply iU h <;> intro h
         ·obtain rfl := Z2 h; exact u2
         ·apply iU h <;> intro h
          ·obtain rfl := Z2 h; exact u2
          ·apply iU h <;> intro h
           ·apply iU h <;> intro h
            ·obtain rfl := Z2 h; exact u2
            ·obtain rfl := Z2 h; exact u2
           ·obtain rfl := Z2 h; exact u2
       ·obtain rfl := Z2 h; exact u2
      ·obtain rfl := Z2 h; exact u2
    ·apply iU h <;> intro h
     ·apply iU h <;> intro h
      ·refine lpC (τ := Int × Int) (fun ⟨n78, i79⟩ => (iS s_0 :: iI at_1 :: a4 (iI n78 :: iI 4 :: iI 65536 :: iI i79 :: a16 (a16 (a16 (a16 (a8 (.any :: [])))))) : List AV)) (fun ⟨_, _⟩ => ([] : List AObj)) (fun n3 ⟨n78, i79⟩ => Zj N s_0 at_1 n3 n78 i79) ((IntKind.wrap .i64 ((IntKind.wrap .i64 (b1.toNat : Int)) - 240)), 1) h (fun i => i) ⟨(rE rfl <| rE rfl <| rV <| rE rfl <| rE rfl <| rE rfl <| rE rfl <| rX <| rX <| rX <| rX <| rX <| rX <| rX <| rX <| rX <| rA <| rN), (hN), rfl, rfl, (roN)⟩ fun n3 ⟨n78, i79⟩ h => ?_
       first | rw [Zj] at h | simp only [Zj] at h
       rw [cX] at h
       apply iU h <;> intro h
       ·refine cP h Z3 p2 fun v81 h => ?_
        apply iU h <;> intro h
        ·obtain rfl := Z2 h; exact u2
        ·show Exists _
         exact ⟨(n3, (IntKind.wrap .i64 ((IntKind.wrap .i64 (64 * n78)) + v81.1)), (IntKind.wrap .i64 (i79 + 1))), h, Nat.lt_succ_self _, (fun i => i), ⟨(rE rfl <| rE rfl <| rV <| rE rfl <| rE rfl <| rE rfl <| rE rfl <| rX <| rX <| rX <| rX <| rX <| rX <| rX <| rX <| rX <| rA <| rN), (hN), rfl, rfl, (roN)⟩⟩
       ·apply iU h <;> intro h
        ·obtain rfl := Z2 h; exact u2
        ·apply iU h <;> intro h
         ·obtain rfl := Z2 h; exact u2
         ·apply iU h <;> intro h
          ·apply iU h <;> intro h
           ·obtain rfl := Z2 h; exact u2
           ·obtain rfl := Z2 h; exact u2
          ·obtain rfl := Z2 h; exact u2
      ·obtain rfl := Z2 h; exact u2
     ·obtain rfl := Z2 h; exact u2
  ·apply iU h <;> intro h
   ·apply iU h <;> intro h
    ·refine lpC (τ := Int × Int) (fun ⟨n99, i100⟩ => (iS s_0 :: iI at_1 :: a4 (iI n99 :: iI 3 :: iI 2048 :: iI i100 :: a16 (a16 (a16 (a16 (a8 (.any :: [])))))) : List AV)) (fun ⟨_, _⟩ => ([] : List AObj)) (fun n4 ⟨n99, i100⟩ => Zl N s_0 at_1 n4 n99 i100) ((IntKind.wrap .i64 ((IntKind.wrap .i64 (b1.toNat : Int)) - 224)), 1) h (fun i => i) ⟨(rE rfl <| rE rfl <| rV <| rE rfl <| rE rfl <| rE rfl <| rE rfl <| rX <| rX <| rX <| rX <| rX <| rX <| rX <| rX <| rX <| rA <| rN), (hN), rfl, rfl, (roN)⟩ fun n4 ⟨n99, i100⟩ h => ?_
     first | rw [Zl] at h | simp only [Zl] at h
     rw [cX] at h
     apply iU h <;> intro h
     ·refine cP h Z3 p2 fun v102 h => ?_
      apply iU h <;> intro h
      ·obtain rfl := Z2 h; exact u2
      ·show Exists _
       exact ⟨(n4, (IntKind.wrap .i64 ((IntKind.wrap .i64 (64 * n99)) + v102.1)), (IntKind.wrap .i64 (i100 + 1))), h, Nat.lt_succ_self _, (fun i => i), ⟨(rE rfl <| rE rfl <| rV <| rE rfl <| rE rfl <| rE rfl <| rE rfl <| rX <| rX <| rX <| rX <| rX <| rX <| rX <| rX <| rX <| rA <| rN), (hN), rfl, rfl, (roN)⟩⟩
     ·apply iU h <;> intro h
      ·obtain rfl := Z2 h; exact u2
      ·apply iU h <;> intro h
       ·obtain rfl := Z2 h; exact u2
       ·apply iU h <;> intro h
        ·apply iU h <;> intro h
         ·obtain rfl := Z2 h; exact u2
         ·obtain rfl := Z2 h; exact u2
        ·obtain rfl := Z2 h; exact u2
    ·apply iU h <;> intro h
     ·apply iU h <;> intro h
      ·refine lpC (τ := Int × Int) (fun ⟨n120, i121⟩ => (iS s_0 :: iI at_1 :: a4 (iI n120 :: iI 4 :: iI 65536 :: iI i121 :: a16 (a16 (a16 (a16 (a8 (.any :: [])))))) : List AV)) (fun ⟨_, _⟩ => ([] : List AObj)) (fun n5 ⟨n120, i121⟩ => Zm N s_0 at_1 n5 n120 i121) ((IntKind.wrap .i64 ((IntKind.wrap .i64 (b1.toNat : Int)) - 240)), 1) h (fun i => i) ⟨(rE rfl <| rE rfl <| rV <| rE rfl <| rE rfl <| rE rfl <| rE rfl <| rX <| rX <| rX <| rX <| rX <| rX <| rX <| rX <| rX <| rA <| rN), (hN), rfl, rfl, (roN)⟩ fun n5 ⟨n120, i121⟩ h => ?_
       first | rw [Zm] at h | simp only [Zm] at h
       rw [cX] at h
       apply iU h <;> intro h
       ·refine cP h Z3 p2 fun v123 h => ?_
        apply iU h <;> intro h
        ·obtain rfl := Z2 h; exact u2
        ·show Exists _
         exact ⟨(n5, (IntKind.wrap .i64 ((IntKind.wrap .i64 (64 * n120)) + v123.1)), (IntKind.wrap .i64 (i121 + 1))), h, Nat.lt_succ_self _, (fun i => i), ⟨(rE rfl <| rE rfl <| rV <| rE rfl <| rE rfl <| rE rfl <| rE rfl <| rX <| rX <| rX <| rX <| rX <| rX <| rX <| rX <| rX <| rA <| rN), (hN), rfl, rfl, (roN)⟩⟩
       ·apply iU h <;> intro h
        ·obtain rfl := Z2 h; exact u2
        ·apply iU h <;> intro h
         ·obtain rfl := Z2 h; exact u2
         ·apply iU h <;> intro h
          ·apply iU h <;> intro h
           ·obtain rfl := Z2 h; exact u2
           ·obtain rfl := Z2 h; exact u2
          ·obtain rfl := Z2 h; exact u2
      ·obtain rfl := Z2 h; exact u2
     ·obtain rfl := Z2 h; exact u2
   ·apply iU h <;> intro h
    ·apply iU h <;> intro h
     ·refine lpC (τ := Int × Int) (fun ⟨n141, i142⟩ => (iS s_0 :: iI at_1 :: a4 (iI n141 :: iI 4 :: iI 65536 :: iI i142 :: a16 (a16 (a16 (a16 (a8 (.any :: [])))))) : List AV)) (fun ⟨_, _⟩ => ([] : List AObj)) (fun n6 ⟨n141, i142⟩ => Zn N s_0 at_1 n6 n141 i142) ((IntKind.wrap .i64 ((IntKind.wrap .i64 (b1.toNat : Int)) - 240)), 1) h (fun i => i) ⟨(rE rfl <| rE rfl <| rV <| rE rfl <| rE rfl <| rE rfl <| rE rfl <| rX <| rX <| rX <| rX <| rX <| rX <| rX <| rX <| rX <| rA <| rN), (hN), rfl, rfl, (roN)⟩ fun n6 ⟨n141, i142⟩ h => ?_
      first | rw [Zn] at h | simp only [Zn] at h
      rw [cX] at h
      apply iU h <;> intro h
      ·refine cP h Z3 p2 fun v144 h => ?_
       apply iU h <;> intro h
       ·obtain rfl := Z2 h; exact u2
       ·show Exists _
        exact ⟨(n6, (IntKind.wrap .i64 ((IntKind.wrap .i64 (64 * n141)) + v144.1)), (IntKind.wrap .i64 (i142 + 1))), h, Nat.lt_succ_self _, (fun i => i), ⟨(rE rfl <| rE rfl <| rV <| rE rfl <| rE rfl <| rE rfl <| rE rfl <| rX <| rX <| rX <| rX <| rX <| rX <| rX <| rX <| rX <| rA <| rN), (hN), rfl, rfl, (roN)⟩⟩
      ·apply iU h <;> intro h
       ·obtain rfl := Z2 h; exact u2
       ·apply iU h <;> intro h
        ·obtain rfl := Z2 h; exact u2
        ·apply iU h <;> intro h
         ·apply iU h <;> intro h
          ·obtain rfl := Z2 h; exact u2
          ·obtain rfl := Z2 h; exact u2
         ·obtain rfl := Z2 h; exact u2
     ·obtain rfl := Z2 h; exact u2
    ·obtain rfl := Z2 h; exact u2
def Z5 (N : Nat) (s_0 : List UInt8) : Nat → Int → Option (Int)
 | 0, _ => none
 | n + 1, at12 =>
  cond (Qc .lss at12 (s_0.length : Int))
  ((Zk N s_0 at12).bind fun v14 =>
  cond (Qc .eql v14.2 0)
  (some at12)
  (cond (Qc .eql v14.1 0)
  (some at12)
  (Z5 N s_0 n (IntKind.wrap .i64 (at12 + v14.2)))))
  (some (-1))
def X6 (N : Nat) (s_0 : List UInt8) : Option (Int) :=
 Z5 N s_0 N 0
theorem Jk {N} {s_0} {r} (h : X6 N s_0 = some r) : Xh Tryz.prog G1 34 [.str s_0] (.int .i64 r) := by
 refine Q7 k34 ?_
 unfold X6 at h
 refine lpC (τ := Int) (fun at12 => (iS s_0 :: .any :: .any :: iI at12 :: a16 (a4 (a2 ([]))) : List AV)) (fun _ => ([] : List AObj)) (fun n0 at12 => Z5 N s_0 n0 at12) (0) h (fun i => i) ⟨(rE rfl <| rW <| rE rfl <| rX <| rX <| rV <| rW <| rN), (hN), rfl, rfl, (roN)⟩ fun n0 at12 h => ?_
 first | rw [Z5] at h | simp only [Z5] at h
 rw [cX] at h
 apply iU h <;> intro h
 ·refine cP h Uv p2 fun v14 h => ?_
  apply iU h <;> intro h
  ·cases h; exact (.p _)
  ·apply iU h <;> intro h
   ·cases h; exact (.p _)
   ·show Exists _
    exact ⟨(n0, (IntKind.wrap .i64 (at12 + v14.2))), h, Nat.lt_succ_self _, (fun i => i), ⟨(rE rfl <| rW <| rE rfl <| rX <| rX <| rV <| rW <| rN), (hN), rfl, rfl, (roN)⟩⟩
 ·cases h; exact (.p _)
def Yk (N : Nat) (s_0 : List UInt8) : Option (Bool) :=
 cond (Qc .leq (s_0.length : Int) 65535)
 ((X6 N s_0).bind fun v2 =>
 some (Qc .lss v2 0))
 (some false)
theorem Uo {N} {s_0} {r} (h : Yk N s_0 = some r) : Xh Tryz.prog G1 11 [.str s_0] (.bool r) := by
 refine Q7 k11 ?_
 unfold Yk at h
 rw [cX] at h
 apply iU h <;> intro h
 ·refine cP h Jk p1 fun v2 h => ?_
  cases h; exact (.p _)
 ·cases h; exact (.p _)
def Zh (N : Nat) (s_0 : List UInt8) (c : Int) : Nat → Int → Option (Bool)
 | 0, _ => none
 | n + 1, i10 =>
  cond (Qc .lss i10 (s_0.length : Int))
  ((idx s_0 i10).bind fun b12 =>
  cond (Qc .eql (b12.toNat : Int) c)
  (some true)
  (Zh N s_0 c n (IntKind.wrap .i64 (i10 + 1))))
  (some false)
def Yc (N : Nat) (s_0 : List UInt8) (c : Int) : Option (Bool) :=
 Zh N s_0 c N 0
theorem Ws {N} {s_0} {c} {r} (h : Yc N s_0 c = some r) : Xh Tryz.prog G1 12 [.str s_0, .int .u8 c] (.bool r) := by
 refine Q7 k12 ?_
 unfold Yc at h
 refine lpC (τ := Int) (fun i10 => (iS s_0 :: .p (.int .u8 c) :: a2 (.any :: iI i10 :: a8 (a2 (.any :: []))) : List AV)) (fun _ => ([] : List AObj)) (fun n0 i10 => Zh N s_0 c n0 i10) (0) h (fun i => i) ⟨(rE rfl <| rE rfl <| rW <| rA <| rE rfl <| rX <| rW <| rA <| rN), (hN), rfl, rfl, (roN)⟩ fun n0 i10 h => ?_
 first | rw [Zh] at h | simp only [Zh] at h
 rw [cX] at h
 apply iU h <;> intro h
 ·refine xB h fun b12 h => ?_
  apply iU h <;> intro h
  ·cases h; exact (.p _)
  ·show Exists _
   exact ⟨(n0, (IntKind.wrap .i64 (i10 + 1))), h, Nat.lt_succ_self _, (fun i => i), ⟨(rE rfl <| rE rfl <| rW <| rA <| rE rfl <| rX <| rW <| rA <| rN), (hN), rfl, rfl, (roN)⟩⟩
 ·cases h; exact (.p _)
def Yv (N : Nat) (s_0 : List UInt8) : Option (Bool) :=
 cond (Q1u .neq s_0 [])
 ((Yk N s_0).bind fun v2 =>
 cond v2
 ((Yc N s_0 43).bind fun v5 =>
 cond (!v5)
 ((Yc N s_0 35).bind fun v8 =>
 some (!v8))
 (some false))
 (some false))
 (some false)
theorem J9 {N} {s_0} {r} (h : Yv N s_0 = some r) : Xh Tryz.prog G1 6 [.str s_0] (.bool r) := by
 refine Q7 k6 ?_
 unfold Yv at h
 rw [cY] at h
 apply iU h <;> intro h
 ·refine cP h Uo p1 fun v2 h => ?_
  apply iU h <;> intro h
  ·refine cP h Ws p2 fun v5 h => ?_
   apply iU h <;> intro h
   ·refine cP h Ws p2 fun v8 h => ?_
    cases h; exact (.p _)
   ·cases h; exact (.p _)
  ·cases h; exact (.p _)
 ·cases h; exact (.p _)
def Vf (_N : Nat) (proto : Int) : Option (Bool) :=
 optC (Q4c U7 proto) (fun m1 =>
 some true)
 (some false)
theorem Q2h {N} {proto} {r} (h : Vf N proto = some r) : Xh Tryz.prog G1 14 [.int .i64 proto] (.bool r) := by
 refine Q7 k14 ?_
 unfold Vf at h
 refine Xo Q1o .nil ?_
 refine Qf1 h (fun m1 hm2 h => ?_) (fun hm2 h => ?_)
 ·cases h; exact (.p _)
 ·cases h; exact (.p _)
def Xl (_N : Nat) (s_0 : List UInt8) : Option (Bool) :=
 cond (Qc .geq (s_0.length : Int) 3)
 (cond (Nat.ble 0 3 && Nat.ble 3 s_0.length) (some (Q1u .eql ((s_0.take 3).drop 0) [239, 191, 189])) none)
 (some false)
theorem Q0t {N} {s_0} {r} (h : Xl N s_0 = some r) : Xh Tryz.prog G1 111 [.str s_0] (.bool r) := by
 refine Q7 Qqu ?_
 unfold Xl at h
 rw [cX, cY] at h
 apply iU h <;> intro h
 ·refine kU h fun h => ?_
  cases h; exact (.p _)
 ·cases h; exact (.p _)
def Zt (N : Nat) (s_0 : List UInt8) : Nat → Nat → Option (Int)
 | 0, _ => none
 | n + 1, pos16 =>
  cond (Nat.blt pos16 s_0.length)
  (cond (Qc .eql (((Q0z s_0 pos16).1 : Nat) : Int) 0)
  (some ((pos16 : Nat) : Int))
  (cond (Qc .eql (((Q0z s_0 pos16).1 : Nat) : Int) 65533)
  (cond (Nat.ble pos16 s_0.length && Nat.ble s_0.length s_0.length) ((Xl N ((s_0.take s_0.length).drop pos16)).bind fun v21 =>
  cond (!v21)
  (some ((pos16 : Nat) : Int))
  (Zt N s_0 n (pos16 + (Q0z s_0 pos16).2))) none)
  (Zt N s_0 n (pos16 + (Q0z s_0 pos16).2))))
  (some (-1))
def Vg (N : Nat) (s_0 : List UInt8) : Option (Int) :=
 Zt N s_0 N 0
theorem Q2k {N} {s_0} {r} (h : Vg N s_0 = some r) : Xh Tryz.prog G1 75 [.str s_0] (.int .i64 r) := by
 refine Q7 k75 ?_
 unfold Vg at h
 refine lpC (τ := Nat) (fun _ => (iS s_0 :: a4 (.any :: .ptr 0 0 :: a16 (a2 ([]))) : List AV)) (fun pos16 => (.strIter s_0 pos16 :: [] : List AObj)) (fun n0 pos16 => Zt N s_0 n0 pos16) (0) h (fun i => i) ⟨(rE rfl <| rV <| rA <| rE rfl <| rX <| rX <| rW <| rN), (hE rfl <| hN), rfl, rfl, (roE rfl <| roN)⟩ fun n0 pos16 h => ?_
 first | rw [Zt] at h | simp only [Zt] at h
 rw [cX] at h
 apply iU h <;> intro h
 ·apply iU h <;> intro h
  ·cases h; exact (.p _)
  ·apply iU h <;> intro h
   ·refine kU h fun h => ?_
    refine cP h Q0t p1 fun v21 h => ?_
    apply iU h <;> intro h
    ·cases h; exact (.p _)
    ·show Exists _
     exact ⟨(n0, (pos16 + (Q0z s_0 pos16).2)), h, Nat.lt_succ_self _, (fun i => i), ⟨(rE rfl <| rV <| rA <| rE rfl <| rX <| rX <| rW <| rN), (hE rfl <| hN), rfl, rfl, (roE rfl <| roN)⟩⟩
   ·show Exists _
    exact ⟨(n0, (pos16 + (Q0z s_0 pos16).2)), h, Nat.lt_succ_self _, (fun i => i), ⟨(rE rfl <| rV <| rA <| rE rfl <| rX <| rX <| rW <| rN), (hE rfl <| hN), rfl, rfl, (roE rfl <| roN)⟩⟩
 ·cases h; exact (.p _)
def Y4 (N : Nat) (s_0 : List UInt8) : Option (Bool) :=
 cond (Qc .leq (s_0.length : Int) 65535)
 ((Vg N s_0).bind fun v2 =>
 some (Qc .eql v2 (-1)))
 (some false)
theorem Ym {N} {s_0} {r} (h : Y4 N s_0 = some r) : Xh Tryz.prog G1 49 [.str s_0] (.bool r) := by
 refine Q7 k49 ?_
 unfold Y4 at h
 rw [cX] at h
 apply iU h <;> intro h
 ·refine cP h Q2k p1 fun v2 h => ?_
  cases h; exact (.p _)
 ·cases h; exact (.p _)
def U5 (N : Nat) (s_0 : List UInt8) : Option (Bool) :=
 cond (Q1u .neq s_0 [])
 ((Y4 N s_0).bind fun v2 =>
 some v2)
 (some false)
theorem Q3i {N} {s_0} {r} (h : U5 N s_0 = some r) : Xh Tryz.prog G1 35 [.str s_0] (.bool r) := by
 refine Q7 k35 ?_
 unfold U5 at h
 rw [cY] at h
 apply iU h <;> intro h
 ·refine cP h Ym p1 fun v2 h => ?_
  cases h; exact (.p _)
 ·cases h; exact (.p _)
def Zd (_N : Nat) (s_0 : List UInt8) (c : Int) : Option (Int) :=
 some (Q90 s_0 (UInt8.ofNat (Int.toNat c)) 0 : Int)
theorem W2 {N} {s_0} {c} {r} (h : Zd N s_0 c = some r) : Xh Tryz.prog G1 146 [.str s_0, .int .u8 c] (.int .i64 r) := by
 refine Q7 Ql9 ?_
 unfold Zd at h
 cases h; exact (.p _)
def Yd (N : Nat) (s_0 : List UInt8) (c : Int) : Option (Int) :=
 (Zd N s_0 c).bind fun v1 =>
 some v1
theorem Xg {N} {s_0} {c} {r} (h : Yd N s_0 c = some r) : Xh Tryz.prog G1 112 [.str s_0, .int .u8 c] (.int .i64 r) := by
 refine Q7 Qjw ?_
 unfold Yd at h
 refine cP h W2 p2 fun v1 h => ?_
 cases h; exact (.p _)
def Za (_N : Nat) (r_0 : Int) : Option (Bool) :=
 cond (Qc .leq 0 r_0)
 (cond (Qc .lss r_0 55296)
 (some true)
 (cond (Qc .lss 57343 r_0)
 (cond (Qc .leq r_0 1114111)
 (some true)
 (some false))
 (some false)))
 (cond (Qc .lss 57343 r_0)
 (cond (Qc .leq r_0 1114111)
 (some true)
 (some false))
 (some false))
theorem Xn {N} {r_0} {r} (h : Za N r_0 = some r) : Xh Tryz.prog G1 113 [.int .i32 r_0] (.bool r) := by
 refine Q7 Qps ?_
 unfold Za at h
 rw [cX] at h
 apply iU h <;> intro h
 ·apply iU h <;> intro h
  ·cases h; exact (.p _)
  ·apply iU h <;> intro h
   ·apply iU h <;> intro h
    ·cases h; exact (.p _)
    ·cases h; exact (.p _)
   ·cases h; exact (.p _)
 ·apply iU h <;> intro h
  ·apply iU h <;> intro h
   ·cases h; exact (.p _)
   ·cases h; exact (.p _)
  ·cases h; exact (.p _)
def Qw (N : Nat) (s_0 : List UInt8) : Nat → Nat → Option (Int)
 | 0, _ => none
 | n + 1, pos11 =>
  cond (Nat.blt pos11 s_0.length)
  (cond (Qc .eql (((Q0z s_0 pos11).1 : Nat) : Int) 65533)
  (some ((pos11 : Nat) : Int))
  (Qw N s_0 n (pos11 + (Q0z s_0 pos11).2)))
  (some (-1))
def Zy (N : Nat) (s_0 : List UInt8) (r_1 : Int) (v80 : Int) : Nat → Int → Option (Int)
 | 0, _ => none
 | n + 1, j96 =>
  cond (Qc .lss j96 (((Utf8.encode r_1).data.toList).length : Int))
  ((idx s_0 (IntKind.wrap .i64 ((IntKind.wrap .i64 ((IntKind.wrap .i64 ((((Utf8.encode r_1).data.toList).length : Int) - 1)) + (IntKind.wrap .i64 (v80 + 1)))) - j96))).bind fun b98 =>
  (idx ((Utf8.encode r_1).data.toList) (IntKind.wrap .i64 ((IntKind.wrap .i64 ((((Utf8.encode r_1).data.toList).length : Int) - 1)) - j96))).bind fun b100 =>
  cond (Qc .neq (b98.toNat : Int) (b100.toNat : Int))
  (none)
  (Zy N s_0 r_1 v80 n (IntKind.wrap .i64 (j96 + 1))))
  (some (IntKind.wrap .i64 ((IntKind.wrap .i64 ((IntKind.wrap .i64 ((((Utf8.encode r_1).data.toList).length : Int) - 1)) + (IntKind.wrap .i64 (v80 + 1)))) - (IntKind.wrap .i64 ((((Utf8.encode r_1).data.toList).length : Int) - 1)))))
def Zu (N : Nat) (s_0 : List UInt8) (r_1 : Int) : Nat → Int → Option (Int)
 | 0, _ => none
 | n + 1, j116 =>
  cond (Qc .lss j116 (((Utf8.encode r_1).data.toList).length : Int))
  ((idx s_0 (IntKind.wrap .i64 ((IntKind.wrap .i64 ((((Utf8.encode r_1).data.toList).length : Int) - 1)) - j116))).bind fun b118 =>
  (idx ((Utf8.encode r_1).data.toList) (IntKind.wrap .i64 ((IntKind.wrap .i64 ((((Utf8.encode r_1).data.toList).length : Int) - 1)) - j116))).bind fun b120 =>
  cond (Qc .neq (b118.toNat : Int) (b120.toNat : Int))
  (none)
  (Zu N s_0 r_1 n (IntKind.wrap .i64 (j116 + 1))))
  (some (IntKind.wrap .i64 ((IntKind.wrap .i64 ((((Utf8.encode r_1).data.toList).length : Int) - 1)) - (IntKind.wrap .i64 ((((Utf8.encode r_1).data.toList).length : Int) - 1)))))
def Zg (N : Nat) (s_0 : List UInt8) (r_1 : Int) : Nat → Option (Int)
 | 0 => none
 | n + 1 =>
  cond (Qc .lss (IntKind.wrap .i64 ((((Utf8.encode r_1).data.toList).length : Int) - 1)) (s_0.length : Int))
  ((idx s_0 (IntKind.wrap .i64 ((((Utf8.encode r_1).data.toList).length : Int) - 1))).bind fun b71 =>
  (idx ((Utf8.encode r_1).data.toList) (IntKind.wrap .i64 ((((Utf8.encode r_1).data.toList).length : Int) - 1))).bind fun b73 =>
  cond (Qc .neq (b71.toNat : Int) (b73.toNat : Int))
  (cond (decide (0 ≤ (IntKind.wrap .i64 ((IntKind.wrap .i64 ((((Utf8.encode r_1).data.toList).length : Int) - 1)) + 1)))) (cond (Nat.ble (IntKind.wrap .i64 ((IntKind.wrap .i64 ((((Utf8.encode r_1).data.toList).length : Int) - 1)) + 1)).toNat s_0.length && Nat.ble s_0.length s_0.length) ((idx ((Utf8.encode r_1).data.toList) (IntKind.wrap .i64 ((((Utf8.encode r_1).data.toList).length : Int) - 1))).bind fun b78 =>
  (Yd N ((s_0.take s_0.length).drop ((IntKind.wrap .i64 ((IntKind.wrap .i64 ((((Utf8.encode r_1).data.toList).length : Int) - 1)) + 1)).toNat)) (b78.toNat : Int)).bind fun v80 =>
  cond (Qc .lss v80 0)
  (some (-1))
  (Zy N s_0 r_1 v80 N 1)) none) none)
  (Zu N s_0 r_1 N 1))
  (some (-1))
def Zw (N : Nat) (s_0 : List UInt8) : Nat → Nat → Option (Int)
 | 0, _ => none
 | n + 1, pos129 =>
  cond (Nat.blt pos129 s_0.length)
  (cond (Qc .eql (((Q0z s_0 pos129).1 : Nat) : Int) 65533)
  (some ((pos129 : Nat) : Int))
  (Zw N s_0 n (pos129 + (Q0z s_0 pos129).2)))
  (some (-1))
def Zx (N : Nat) (s_0 : List UInt8) (r_1 : Int) (v198 : Int) : Nat → Int → Option (Int)
 | 0, _ => none
 | n + 1, j214 =>
  cond (Qc .lss j214 (((Utf8.encode r_1).data.toList).length : Int))
  ((idx s_0 (IntKind.wrap .i64 ((IntKind.wrap .i64 ((IntKind.wrap .i64 ((((Utf8.encode r_1).data.toList).length : Int) - 1)) + (IntKind.wrap .i64 (v198 + 1)))) - j214))).bind fun b216 =>
  (idx ((Utf8.encode r_1).data.toList) (IntKind.wrap .i64 ((IntKind.wrap .i64 ((((Utf8.encode r_1).data.toList).length : Int) - 1)) - j214))).bind fun b218 =>
  cond (Qc .neq (b216.toNat : Int) (b218.toNat : Int))
  (none)
  (Zx N s_0 r_1 v198 n (IntKind.wrap .i64 (j214 + 1))))
  (some (IntKind.wrap .i64 ((IntKind.wrap .i64 ((IntKind.wrap .i64 ((((Utf8.encode r_1).data.toList).length : Int) - 1)) + (IntKind.wrap .i64 (v198 + 1)))) - (IntKind.wrap .i64 ((((Utf8.encode r_1).data.toList).length : Int) - 1)))))
def Zv (N : Nat) (s_0 : List UInt8) (r_1 : Int) : Nat → Int → Option (Int)
 | 0, _ => none
 | n + 1, j234 =>
  cond (Qc .lss j234 (((Utf8.encode r_1).data.toList).length : Int))
  ((idx s_0 (IntKind.wrap .i64 ((IntKind.wrap .i64 ((((Utf8.encode r_1).data.toList).length : Int) - 1)) - j234))).bind fun b236 =>
  (idx ((Utf8.encode r_1).data.toList) (IntKind.wrap .i64 ((IntKind.wrap .i64 ((((Utf8.encode r_1).data.toList).length : Int) - 1)) - j234))).bind fun b238 =>
  cond (Qc .neq (b236.toNat : Int) (b238.toNat : Int))
  (none)
  (Zv N s_0 r_1 n (IntKind.wrap .i64 (j234 + 1))))
  (some (IntKind.wrap .i64 ((IntKind.wrap .i64 ((((Utf8.encode r_1).data.toList).length : Int) - 1)) - (IntKind.wrap .i64 ((((Utf8.encode r_1).data.toList).length : Int) - 1)))))
def Yh (N : Nat) (s_0 : List UInt8) (r_1 : Int) : Nat → Option (Int)
 | 0 => none
 | n + 1 =>
  cond (Qc .lss (IntKind.wrap .i64 ((((Utf8.encode r_1).data.toList).length : Int) - 1)) (s_0.length : Int))
  ((idx s_0 (IntKind.wrap .i64 ((((Utf8.encode r_1).data.toList).length : Int) - 1))).bind fun b189 =>
  (idx ((Utf8.encode r_1).data.toList) (IntKind.wrap .i64 ((((Utf8.encode r_1).data.toList).length : Int) - 1))).bind fun b191 =>
  cond (Qc .neq (b189.toNat : Int) (b191.toNat : Int))
  (cond (decide (0 ≤ (IntKind.wrap .i64 ((IntKind.wrap .i64 ((((Utf8.encode r_1).data.toList).length : Int) - 1)) + 1)))) (cond (Nat.ble (IntKind.wrap .i64 ((IntKind.wrap .i64 ((((Utf8.encode r_1).data.toList).length : Int) - 1)) + 1)).toNat s_0.length && Nat.ble s_0.length s_0.length) ((idx ((Utf8.encode r_1).data.toList) (IntKind.wrap .i64 ((((Utf8.encode r_1).data.toList).length : Int) - 1))).bind fun b196 =>
  (Yd N ((s_0.take s_0.length).drop ((IntKind.wrap .i64 ((IntKind.wrap .i64 ((((Utf8.encode r_1).data.toList).length : Int) - 1)) + 1)).toNat)) (b196.toNat : Int)).bind fun v198 =>
  cond (Qc .lss v198 0)
  (some (-1))
  (Zx N s_0 r_1 v198 N 1)) none) none)
  (Zv N s_0 r_1 N 1))
  (some (-1))
def X4 (N : Nat) (s_0 : List UInt8) (r_1 : Int) : Option (Int) :=
 cond (Qc .leq 0 r_1)
 (cond (Qc .lss r_1 128)
 ((Yd N s_0 (IntKind.wrap .u8 r_1)).bind fun v3 =>
 some v3)
 (cond (Qc .eql r_1 65533)
 (Qw N s_0 N 0)
 ((Za N r_1).bind fun v14 =>
 cond (!v14)
 (some (-1))
 (Zg N s_0 r_1 N))))
 (cond (Qc .eql r_1 65533)
 (Zw N s_0 N 0)
 ((Za N r_1).bind fun v132 =>
 cond (!v132)
 (some (-1))
 (Yh N s_0 r_1 N)))
theorem Jj {N} {s_0} {r_1} {r} (h : X4 N s_0 r_1 = some r) : Xh Tryz.prog G1 76 [.str s_0, .int .i32 r_1] (.int .i64 r) := by
 refine Q7 k76 ?_
 unfold X4 at h
 rw [cX] at h
 apply iU h <;> intro h
 ·apply iU h <;> intro h
  ·refine cP h Xg p2 fun v3 h => ?_
   cases h; exact (.p _)
  ·apply iU h <;> intro h
   ·refine lpC (τ := Nat) (fun _ => (a16 (a16 (a16 (a16 (a16 (a16 (a16 (a16 (a16 (a16 (a8 (a4 (a2 (.any :: .ptr 0 0 :: a8 (a2 (.any :: []))))))))))))))) : List AV)) (fun pos11 => (.strIter s_0 pos11 :: [] : List AObj)) (fun n0 pos11 => Qw N s_0 n0 pos11) (0) h (fun i => i) ⟨(rX <| rX <| rX <| rX <| rX <| rX <| rX <| rX <| rX <| rX <| rX <| rX <| rX <| rX <| rX <| rX <| rX <| rX <| rX <| rX <| rX <| rV <| rW <| rA <| rE rfl <| rX <| rW <| rA <| rN), (hE rfl <| hN), rfl, rfl, (roE rfl <| roN)⟩ fun n0 pos11 h => ?_
    first | rw [Qw] at h | simp only [Qw] at h
    rw [cX] at h
    apply iU h <;> intro h
    ·apply iU h <;> intro h
     ·cases h; exact (.p _)
     ·show Exists _
      exact ⟨(n0, (pos11 + (Q0z s_0 pos11).2)), h, Nat.lt_succ_self _, (fun i => i), ⟨(rX <| rX <| rX <| rX <| rX <| rX <| rX <| rX <| rX <| rX <| rX <| rX <| rX <| rX <| rX <| rX <| rX <| rX <| rX <| rX <| rX <| rV <| rW <| rA <| rE rfl <| rX <| rW <| rA <| rN), (hE rfl <| hN), rfl, rfl, (roE rfl <| roN)⟩⟩
    ·cases h; exact (.p _)
   ·refine cP h Xn p1 fun v14 h => ?_
    apply iU h <;> intro h
    ·cases h; exact (.p _)
    ·refine lpC (τ := Unit) (fun _ => (iS s_0 :: a4 (a2 (iS ((Utf8.encode r_1).data.toList) :: .p (.int .i64 (IntKind.wrap .i64 ((((Utf8.encode r_1).data.toList).length : Int) - 1))) :: .p (.int .i64 (IntKind.wrap .i64 ((((Utf8.encode r_1).data.toList).length : Int) - 1))) :: a16 (a16 (a16 (a16 (a16 (a16 (a16 (a16 (a16 (a16 (a16 (.any :: []))))))))))))) : List AV)) (fun _ => ([] : List AObj)) (fun n1 ⟨⟩ => Zg N s_0 r_1 n1) () h (fun i => i) ⟨(rE rfl <| rV <| rW <| rE rfl <| rE rfl <| rE rfl <| rX <| rX <| rX <| rX <| rX <| rX <| rX <| rX <| rX <| rX <| rX <| rX <| rX <| rX <| rX <| rX <| rX <| rX <| rX <| rX <| rX <| rX <| rA <| rN), (hN), rfl, rfl, (roN)⟩ fun n1 ⟨⟩ h => ?_
     first | rw [Zg] at h | simp only [Zg] at h
     rw [cX] at h
     apply iU h <;> intro h
     ·refine Zs ?_
      refine xB h fun b71 h => ?_
      refine xB h fun b73 h => ?_
      apply iU h <;> intro h
      ·refine Zs ?_
       refine kU h fun h => ?_
       refine kU h fun h => ?_
       refine xB h fun b78 h => ?_
       refine cD h Xg p2 fun v80 h => ?_
       apply iU h <;> intro h
       ·cases h; exact (.p _)
       ·refine lpC (τ := Int) (fun j96 => (iS s_0 :: a4 (a2 (iS ((Utf8.encode r_1).data.toList) :: .p (.int .i64 (IntKind.wrap .i64 ((((Utf8.encode r_1).data.toList).length : Int) - 1))) :: .p (.int .i64 (IntKind.wrap .i64 ((IntKind.wrap .i64 ((((Utf8.encode r_1).data.toList).length : Int) - 1)) + (IntKind.wrap .i64 (v80 + 1))))) :: .any :: .any :: iI j96 :: a16 (a16 (a16 (a16 (a16 (a16 (a16 (a16 (a16 (a16 (a8 (a4 (a2 ([]))))))))))))))) : List AV)) (fun _ => ([] : List AObj)) (fun n2 j96 => Zy N s_0 r_1 v80 n2 j96) (1) h (fun i => i) ⟨(rE rfl <| rV <| rW <| rE rfl <| rE rfl <| rE rfl <| rW <| rE rfl <| rX <| rX <| rX <| rX <| rX <| rX <| rX <| rX <| rX <| rX <| rX <| rX <| rX <| rX <| rX <| rX <| rX <| rX <| rX <| rX <| rX <| rV <| rW <| rN), (hN), rfl, rfl, (roN)⟩ fun n2 j96 h => ?_
        first | rw [Zy] at h | simp only [Zy] at h
        rw [cX] at h
        apply iU h <;> intro h
        ·refine Zs ?_
         refine xB h fun b98 h => ?_
         refine xB h fun b100 h => ?_
         apply iU h <;> intro h
         ·first | (cases h; done) | (simp [Q5j] at h; done)
         ·show Exists _
          exact ⟨(n2, (IntKind.wrap .i64 (j96 + 1))), h, Nat.lt_succ_self _, (fun i => i), ⟨(rE rfl <| rV <| rW <| rE rfl <| rE rfl <| rE rfl <| rW <| rE rfl <| rX <| rX <| rX <| rX <| rX <| rX <| rX <| rX <| rX <| rX <| rX <| rX <| rX <| rX <| rX <| rX <| rX <| rX <| rX <| rX <| rX <| rV <| rW <| rN), (hN), rfl, rfl, (roN)⟩⟩
        ·cases h; exact (.p _)
      ·refine lpC (τ := Int) (fun j116 => (iS s_0 :: a4 (a2 (iS ((Utf8.encode r_1).data.toList) :: .p (.int .i64 (IntKind.wrap .i64 ((((Utf8.encode r_1).data.toList).length : Int) - 1))) :: .p (.int .i64 (IntKind.wrap .i64 ((((Utf8.encode r_1).data.toList).length : Int) - 1))) :: .any :: .any :: iI j116 :: a16 (a16 (a16 (a16 (a16 (a16 (a16 (a16 (a16 (a16 (a8 (a4 (a2 ([]))))))))))))))) : List AV)) (fun _ => ([] : List AObj)) (fun n3 j116 => Zu N s_0 r_1 n3 j116) (1) h (fun i => i) ⟨(rE rfl <| rV <| rW <| rE rfl <| rE rfl <| rE rfl <| rW <| rE rfl <| rX <| rX <| rX <| rX <| rX <| rX <| rX <| rX <| rX <| rX <| rX <| rX <| rX <| rX <| rX <| rX <| rX <| rX <| rX <| rX <| rX <| rV <| rW <| rN), (hN), rfl, rfl, (roN)⟩ fun n3 j116 h => ?_
       first | rw [Zu] at h | simp only [Zu] at h
       rw [cX] at h
       apply iU h <;> intro h
       ·refine Zs ?_
        refine xB h fun b118 h => ?_
        refine xB h fun b120 h => ?_
        apply iU h <;> intro h
        ·first | (cases h; done) | (simp [Q5j] at h; done)
        ·show Exists _
         exact ⟨(n3, (IntKind.wrap .i64 (j116 + 1))), h, Nat.lt_succ_self _, (fun i => i), ⟨(rE rfl <| rV <| rW <| rE rfl <| rE rfl <| rE rfl <| rW <| rE rfl <| rX <| rX <| rX <| rX <| rX <| rX <| rX <| rX <| rX <| rX <| rX <| rX <| rX <| rX <| rX <| rX <| rX <| rX <| rX <| rX <| rX <| rV <| rW <| rN), (hN), rfl, rfl, (roN)⟩⟩
       ·cases h; exact (.p _)
     ·cases h; exact (.p _)
 ·apply iU h <;> intro h
  ·refine lpC (τ := Nat) (fun _ => (a16 (a16 (a16 (a16 (a16 (a16 (a16 (a16 (a16 (a16 (a8 (a4 (a2 (.any :: .ptr 0 0 :: a8 (a2 (.any :: []))))))))))))))) : List AV)) (fun pos129 => (.strIter s_0 pos129 :: [] : List AObj)) (fun n4 pos129 => Zw N s_0 n4 pos129) (0) h (fun i => i) ⟨(rX <| rX <| rX <| rX <| rX <| rX <| rX <| rX <| rX <| rX <| rX <| rX <| rX <| rX <| rX <| rX <| rX <| rX <| rX <| rX <| rX <| rV <| rW <| rA <| rE rfl <| rX <| rW <| rA <| rN), (hE rfl <| hN), rfl, rfl, (roE rfl <| roN)⟩ fun n4 pos129 h => ?_
   first | rw [Zw] at h | simp only [Zw] at h
   rw [cX] at h
   apply iU h <;> intro h
   ·apply iU h <;> intro h
    ·cases h; exact (.p _)
    ·show Exists _
     exact ⟨(n4, (pos129 + (Q0z s_0 pos129).2)), h, Nat.lt_succ_self _, (fun i => i), ⟨(rX <| rX <| rX <| rX <| rX <| rX <| rX <| rX <| rX <| rX <| rX <| rX <| rX <| rX <| rX <| rX <| rX <| rX <| rX <| rX <| rX <| rV <| rW <| rA <| rE rfl <| rX <| rW <| rA <| rN), (hE rfl <| hN), rfl, rfl, (roE rfl <| roN)⟩⟩
   ·cases h; exact (.p _)
  ·refine cP h Xn p1 fun v132 h => ?_
   apply iU h <;> intro h
   ·cases h; exact (.p _)
   ·refine lpC (τ := Unit) (fun _ => (iS s_0 :: a4 (a2 (iS ((Utf8.encode r_1).data.toList) :: .p (.int .i64 (IntKind.wrap .i64 ((((Utf8.encode r_1).data.toList).length : Int) - 1))) :: .p (.int .i64 (IntKind.wrap .i64 ((((Utf8.encode r_1).data.toList).length : Int) - 1))) :: a16 (a16 (a16 (a16 (a16 (a16 (a16 (a16 (a16 (a16 (a16 (.any :: []))))))))))))) : List AV)) (fun _ => ([] : List AObj)) (fun n5 ⟨⟩ => Yh N s_0 r_1 n5) () h (fun i => i) ⟨(rE rfl <| rV <| rW <| rE rfl <| rE rfl <| rE rfl <| rX <| rX <| rX <| rX <| rX <| rX <| rX <| rX <| rX <| rX <| rX <| rX <| rX <| rX <| rX <| rX <| rX <| rX <| rX <| rX <| rX <| rX <| rA <| rN), (hN), rfl, rfl, (roN)⟩ fun n5 ⟨⟩ h => ?_
    first | rw [Yh] at h | simp only [Yh] at h
    rw [cX] at h
    apply iU h <;> intro h
    ·refine Zs ?_
     refine xB h fun b189 h => ?_
     refine xB h fun b191 h => ?_
     apply iU h <;> intro h
     ·refine Zs ?_
      refine kU h fun h => ?_
      refine kU h fun h => ?_
      refine xB h fun b196 h => ?_
      refine cD h Xg p2 fun v198 h => ?_
      apply iU h <;> intro h
      ·cases h; exact (.p _)
      ·refine lpC (τ := Int) (fun j214 => (iS s_0 :: a4 (a2 (iS ((Utf8.encode r_1).data.toList) :: .p (.int .i64 (IntKind.wrap .i64 ((((Utf8.encode r_1).data.toList).length : Int) - 1))) :: .p (.int .i64 (IntKind.wrap .i64 ((IntKind.wrap .i64 ((((Utf8.encode r_1).data.toList).length : Int) - 1)) + (IntKind.wrap .i64 (v198 + 1))))) :: .any :: .any :: iI j214 :: a16 (a16 (a16 (a16 (a16 (a16 (a16 (a16 (a16 (a16 (a8 (a4 (a2 ([]))))))))))))))) : List AV)) (fun _ => ([] : List AObj)) (fun n6 j214 => Zx N s_0 r_1 v198 n6 j214) (1) h (fun i => i) ⟨(rE rfl <| rV <| rW <| rE rfl <| rE rfl <| rE rfl <| rW <| rE rfl <| rX <| rX <| rX <| rX <| rX <| rX <| rX <| rX <| rX <| rX <| rX <| rX <| rX <| rX <| rX <| rX <| rX <| rX <| rX <| rX <| rX <| rV <| rW <| rN), (hN), rfl, rfl, (roN)⟩ fun n6 j214 h => ?_
       first | rw [Zx] at h | simp only [Zx] at h
       rw [cX] at h
       apply iU h <;> intro h
       ·refine Zs ?_
        refine xB h fun b216 h => ?_
        refine xB h fun b218 h => ?_
        apply iU h <;> intro h
        ·first | (cases h; done) | (simp [Q5j] at h; done)
        ·show Exists _
         exact ⟨(n6, (IntKind.wrap .i64 (j214 + 1))), h, Nat.lt_succ_self _, (fun i => i), ⟨(rE rfl <| rV <| rW <| rE rfl <| rE rfl <| rE rfl <| rW <| rE rfl <| rX <| rX <| rX <| rX <| rX <| rX <| rX <| rX <| rX <| rX <| rX <| rX <| rX <| rX <| rX <| rX <| rX <| rX <| rX <| rX <| rX <| rV <| rW <| rN), (hN), rfl, rfl, (roN)⟩⟩
       ·cases h; exact (.p _)
     ·refine lpC (τ := Int) (fun j234 => (iS s_0 :: a4 (a2 (iS ((Utf8.encode r_1).data.toList) :: .p (.int .i64 (IntKind.wrap .i64 ((((Utf8.encode r_1).data.toList).length : Int) - 1))) :: .p (.int .i64 (IntKind.wrap .i64 ((((Utf8.encode r_1).data.toList).length : Int) - 1))) :: .any :: .any :: iI j234 :: a16 (a16 (a16 (a16 (a16 (a16 (a16 (a16 (a16 (a16 (a8 (a4 (a2 ([]))))))))))))))) : List AV)) (fun _ => ([] : List AObj)) (fun n7 j234 => Zv N s_0 r_1 n7 j234) (1) h (fun i => i) ⟨(rE rfl <| rV <| rW <| rE rfl <| rE rfl <| rE rfl <| rW <| rE rfl <| rX <| rX <| rX <| rX <| rX <| rX <| rX <| rX <| rX <| rX <| rX <| rX <| rX <| rX <| rX <| rX <| rX <| rX <| rX <| rX <| rX <| rV <| rW <| rN), (hN), rfl, rfl, (roN)⟩ fun n7 j234 h => ?_
      first | rw [Zv] at h | simp only [Zv] at h
      rw [cX] at h
      apply iU h <;> intro h
      ·refine Zs ?_
       refine xB h fun b236 h => ?_
       refine xB h fun b238 h => ?_
       apply iU h <;> intro h
       ·first | (cases h; done) | (simp [Q5j] at h; done)
       ·show Exists _
        exact ⟨(n7, (IntKind.wrap .i64 (j234 + 1))), h, Nat.lt_succ_self _, (fun i => i), ⟨(rE rfl <| rV <| rW <| rE rfl <| rE rfl <| rE rfl <| rW <| rE rfl <| rX <| rX <| rX <| rX <| rX <| rX <| rX <| rX <| rX <| rX <| rX <| rX <| rX <| rX <| rX <| rX <| rX <| rX <| rX <| rX <| rX <| rV <| rW <| rN), (hN), rfl, rfl, (roN)⟩⟩
      ·cases h; exact (.p _)
    ·cases h; exact (.p _)
def Yf (_N : Nat) (bufLen : Int) : Option (Bool) :=
 some (Qc .gtr bufLen 8)
theorem V5 {N} {bufLen} {r} (h : Yf N bufLen = some r) : Xh Tryz.prog G1 77 [.int .i64 bufLen] (.bool r) := by
 refine Q7 k77 ?_
 unfold Yf at h
 rw [cX] at h
 cases h; exact (.p _)
def Zb (N : Nat) (s_0 : List UInt8) : Nat → Int → Option (Int)
 | 0, _ => none
 | n + 1, i20 =>
  cond (Qc .lss i20 (s_0.length : Int))
  ((idx s_0 i20).bind fun b22 =>
  cond (decide (0 ≤ (b22.toNat : Int)) && decide ((b22.toNat : Int) < ((256 : Nat) : Int))) ((idx ([false, false, false, false, false, false, false, false, false, false, false, false, false, false, false, false, false, false, false, false, false, false, false, false, false, false, false, false, false, false, false, false, false, false, false, true, false, false, false, false, false, false, false, true, false, false, false, false, false, false, false, false, false, false, false, false, false, false, false, false, false, false, false, false, false, false, false, false, false, false, false, false, false, false, false, false, false, false, false, false, false, false, false, false, false, false, false, false, false, false, false, false, false, false, false, false, false, false, false, false, false, false, false, false, false, false, false, false, false, false, false, false, false, false, false, false, false, false, false, false, false, false, false, false, false, false, false, false, false, false, false, false, false, false, false, false, false, false, false, false, false, false, false, false, false, false, false, false, false, false, false, false, false, false, false, false, false, false, false, false, false, false, false, false, false, false, false, false, false, false, false, false, false, false, false, false, false, false, false, false, false, false, false, false, false, false, false, false, false, false, false, false, false, false, false, false, false, false, false, false, false, false, false, false, false, false, false, false, false, false, false, false, false, false, false, false, false, false, false, false, false, false, false, false, false, false, false, false, false, false, false, false, false, false, false, false, false, false, false, false, false, false, false, false, false, false, false, false, false, false, false, false, false, false, false, false] : List Bool) (b22.toNat : Int)).bind fun y24 =>
  cond y24
  (some i20)
  (Zb N s_0 n (IntKind.wrap .i64 (i20 + 1)))) none)
  (some (-1))
def Zc (N : Nat) (s_0 : List UInt8) : Nat → Nat → Option (Int)
 | 0, _ => none
 | n + 1, pos37 =>
  cond (Nat.blt pos37 s_0.length)
  ((X4 N [43, 35] (((Q0z s_0 pos37).1 : Nat) : Int)).bind fun v39 =>
  cond (Qc .geq v39 0)
  (some ((pos37 : Nat) : Int))
  (Zc N s_0 n (pos37 + (Q0z s_0 pos37).2)))
  (some (-1))
def Yl (N : Nat) (s_0 : List UInt8) : Option (Int) :=
 cond (Q1u .eql [43, 35] [])
 (some (-1))
 ((Yf N (s_0.length : Int)).bind fun v2 =>
 cond v2
 (Zb N s_0 N 0)
 (Zc N s_0 N 0))
theorem Uw {N} {s_0} {r} (h : Yl N s_0 = some r) : Xh Tryz.prog G1 50 [.str s_0, .str [43, 35]] (.int .i64 r) := by
 refine Q7 k50 ?_
 unfold Yl at h
 rw [cY] at h
 apply iU h <;> intro h
 ·cases h; exact (.p _)
 ·refine ifF (cF (by decide)) ?_
  refine cP h V5 p1 fun v2 h => ?_
  apply iU h <;> intro h
  ·refine Q3 k78 ?_
   refine Q0c 4 ?_
   refine ifT (cF (by decide)) ?_
   refine ifF (cF (by decide)) ?_
   refine ifT (cF (by decide)) ?_
   refine ifF (cF (by decide)) ?_
   refine ifF (cF (by decide)) ?_
   refine lpC (τ := Int) (fun i20 => (iS s_0 :: a4 (.any :: .ptr 1 0 :: .any :: iI i20 :: a16 (a16 (a8 (a4 (a2 ([])))))) : List AV)) (fun _ => (.cells (.p (.bool false) :: .p (.bool false) :: .p (.bool false) :: .p (.bool false) :: .p (.bool false) :: .p (.bool false) :: .p (.bool false) :: .p (.bool false) :: .p (.bool false) :: .p (.bool false) :: .p (.bool false) :: .p (.bool false) :: .p (.bool false) :: .p (.bool false) :: .p (.bool false) :: .p (.bool false) :: .p (.bool false) :: .p (.bool false) :: .p (.bool false) :: .p (.bool false) :: .p (.bool false) :: .p (.bool false) :: .p (.bool false) :: .p (.bool false) :: .p (.bool false) :: .p (.bool false) :: .p (.bool false) :: .p (.bool false) :: .p (.bool false) :: .p (.bool false) :: .p (.bool false) :: .p (.bool false) :: .p (.bool false) :: .p (.bool false) :: .p (.bool false) :: .p (.bool true) :: .p (.bool false) :: .p (.bool false) :: .p (.bool false) :: .p (.bool false) :: .p (.bool false) :: .p (.bool false) :: .p (.bool false) :: .p (.bool true) :: .p (.bool false) :: .p (.bool false) :: .p (.bool false) :: .p (.bool false) :: .p (.bool false) :: .p (.bool false) :: .p (.bool false) :: .p (.bool false) :: .p (.bool false) :: .p (.bool false) :: .p (.bool false) :: .p (.bool false) :: .p (.bool false) :: .p (.bool false) :: .p (.bool false) :: .p (.bool false) :: .p (.bool false) :: .p (.bool false) :: .p (.bool false) :: .p (.bool false) :: .p (.bool false) :: .p (.bool false) :: .p (.bool false) :: .p (.bool false) :: .p (.bool false) :: .p (.bool false) :: .p (.bool false) :: .p (.bool false) :: .p (.bool false) :: .p (.bool false) :: .p (.bool false) :: .p (.bool false) :: .p (.bool false) :: .p (.bool false) :: .p (.bool false) :: .p (.bool false) :: .p (.bool false) :: .p (.bool false) :: .p (.bool false) :: .p (.bool false) :: .p (.bool false) :: .p (.bool false) :: .p (.bool false) :: .p (.bool false) :: .p (.bool false) :: .p (.bool false) :: .p (.bool false) :: .p (.bool false) :: .p (.bool false) :: .p (.bool false) :: .p (.bool false) :: .p (.bool false) :: .p (.bool false) :: .p (.bool false) :: .p (.bool false) :: .p (.bool false) :: .p (.bool false) :: .p (.bool false) :: .p (.bool false) :: .p (.bool false) :: .p (.bool false) :: .p (.bool false) :: .p (.bool false) :: .p (.bool false) :: .p (.bool false) :: .p (.bool false) :: .p (.bool false) :: .p (.bool false) :: .p (.bool false) :: .p (.bool false) :: .p (.bool false) :: .p (.bool false) :: .p (.bool false) :: .p (.bool false) :: .p (.bool false) :: .p (.bool false) :: .p (.bool false) :: .p (.bool false) :: .p (.bool false) :: .p (.bool false) :: .p (.bool false) :: .p (.bool false) :: .p (.bool false) :: .p (.bool false) :: .p (.bool false) :: .p (.bool false) :: .p (.bool false) :: .p (.bool false) :: .p (.bool false) :: .p (.bool false) :: .p (.bool false) :: .p (.bool false) :: .p (.bool false) :: .p (.bool false) :: .p (.bool false) :: .p (.bool false) :: .p (.bool false) :: .p (.bool false) :: .p (.bool false) :: .p (.bool false) :: .p (.bool false) :: .p (.bool false) :: .p (.bool false) :: .p (.bool false) :: .p (.bool false) :: .p (.bool false) :: .p (.bool false) :: .p (.bool false) :: .p (.bool false) :: .p (.bool false) :: .p (.bool false) :: .p (.bool false) :: .p (.bool false) :: .p (.bool false) :: .p (.bool false) :: .p (.bool false) :: .p (.bool false) :: .p (.bool false) :: .p (.bool false) :: .p (.bool false) :: .p (.bool false) :: .p (.bool false) :: .p (.bool false) :: .p (.bool false) :: .p (.bool false) :: .p (.bool false) :: .p (.bool false) :: .p (.bool false) :: .p (.bool false) :: .p (.bool false) :: .p (.bool false) :: .p (.bool false) :: .p (.bool false) :: .p (.bool false) :: .p (.bool false) :: .p (.bool false) :: .p (.bool false) :: .p (.bool false) :: .p (.bool false) :: .p (.bool false) :: .p (.bool false) :: .p (.bool false) :: .p (.bool false) :: .p (.bool false) :: .p (.bool false) :: .p (.bool false) :: .p (.bool false) :: .p (.bool false) :: .p (.bool false) :: .p (.bool false) :: .p (.bool false) :: .p (.bool false) :: .p (.bool false) :: .p (.bool false) :: .p (.bool false) :: .p (.bool false) :: .p (.bool false) :: .p (.bool false) :: .p (.bool false) :: .p (.bool false) :: .p (.bool false) :: .p (.bool false) :: .p (.bool false) :: .p (.bool false) :: .p (.bool false) :: .p (.bool false) :: .p (.bool false) :: .p (.bool false) :: .p (.bool false) :: .p (.bool false) :: .p (.bool false) :: .p (.bool false) :: .p (.bool false) :: .p (.bool false) :: .p (.bool false) :: .p (.bool false) :: .p (.bool false) :: .p (.bool false) :: .p (.bool false) :: .p (.bool false) :: .p (.bool false) :: .p (.bool false) :: .p (.bool false) :: .p (.bool false) :: .p (.bool false) :: .p (.bool false) :: .p (.bool false) :: .p (.bool false) :: .p (.bool false) :: .p (.bool false) :: .p (.bool false) :: .p (.bool false) :: .p (.bool false) :: .p (.bool false) :: .p (.bool false) :: .p (.bool false) :: .p (.bool false) :: .p (.bool false) :: .p (.bool false) :: .p (.bool false) :: .p (.bool false) :: .p (.bool false) :: .p (.bool false) :: .p (.bool false) :: .p (.bool false) :: .p (.bool false) :: .p (.bool false) :: .p (.bool false) :: .p (.bool false) :: .p (.bool false) :: .p (.bool false) :: .p (.bool false) :: []) :: .cells (.p (.bool false) :: .p (.bool false) :: .p (.bool false) :: .p (.bool false) :: .p (.bool false) :: .p (.bool false) :: .p (.bool false) :: .p (.bool false) :: .p (.bool false) :: .p (.bool false) :: .p (.bool false) :: .p (.bool false) :: .p (.bool false) :: .p (.bool false) :: .p (.bool false) :: .p (.bool false) :: .p (.bool false) :: .p (.bool false) :: .p (.bool false) :: .p (.bool false) :: .p (.bool false) :: .p (.bool false) :: .p (.bool false) :: .p (.bool false) :: .p (.bool false) :: .p (.bool false) :: .p (.bool false) :: .p (.bool false) :: .p (.bool false) :: .p (.bool false) :: .p (.bool false) :: .p (.bool false) :: .p (.bool false) :: .p (.bool false) :: .p (.bool false) :: .p (.bool true) :: .p (.bool false) :: .p (.bool false) :: .p (.bool false) :: .p (.bool false) :: .p (.bool false) :: .p (.bool false) :: .p (.bool false) :: .p (.bool true) :: .p (.bool false) :: .p (.bool false) :: .p (.bool false) :: .p (.bool false) :: .p (.bool false) :: .p (.bool false) :: .p (.bool false) :: .p (.bool false) :: .p (.bool false) :: .p (.bool false) :: .p (.bool false) :: .p (.bool false) :: .p (.bool false) :: .p (.bool false) :: .p (.bool false) :: .p (.bool false) :: .p (.bool false) :: .p (.bool false) :: .p (.bool false) :: .p (.bool false) :: .p (.bool false) :: .p (.bool false) :: .p (.bool false) :: .p (.bool false) :: .p (.bool false) :: .p (.bool false) :: .p (.bool false) :: .p (.bool false) :: .p (.bool false) :: .p (.bool false) :: .p (.bool false) :: .p (.bool false) :: .p (.bool false) :: .p (.bool false) :: .p (.bool false) :: .p (.bool false) :: .p (.bool false) :: .p (.bool false) :: .p (.bool false) :: .p (.bool false) :: .p (.bool false) :: .p (.bool false) :: .p (.bool false) :: .p (.bool false) :: .p (.bool false) :: .p (.bool false) :: .p (.bool false) :: .p (.bool false) :: .p (.bool false) :: .p (.bool false) :: .p (.bool false) :: .p (.bool false) :: .p (.bool false) :: .p (.bool false) :: .p (.bool false) :: .p (.bool false) :: .p (.bool false) :: .p (.bool false) :: .p (.bool false) :: .p (.bool false) :: .p (.bool false) :: .p (.bool false) :: .p (.bool false) :: .p (.bool false) :: .p (.bool false) :: .p (.bool false) :: .p (.bool false) :: .p (.bool false) :: .p (.bool false) :: .p (.bool false) :: .p (.bool false) :: .p (.bool false) :: .p (.bool false) :: .p (.bool false) :: .p (.bool false) :: .p (.bool false) :: .p (.bool false) :: .p (.bool false) :: .p (.bool false) :: .p (.bool false) :: .p (.bool false) :: .p (.bool false) :: .p (.bool false) :: .p (.bool false) :: .p (.bool false) :: .p (.bool false) :: .p (.bool false) :: .p (.bool false) :: .p (.bool false) :: .p (.bool false) :: .p (.bool false) :: .p (.bool false) :: .p (.bool false) :: .p (.bool false) :: .p (.bool false) :: .p (.bool false) :: .p (.bool false) :: .p (.bool false) :: .p (.bool false) :: .p (.bool false) :: .p (.bool false) :: .p (.bool false) :: .p (.bool false) :: .p (.bool false) :: .p (.bool false) :: .p (.bool false) :: .p (.bool false) :: .p (.bool false) :: .p (.bool false) :: .p (.bool false) :: .p (.bool false) :: .p (.bool false) :: .p (.bool false) :: .p (.bool false) :: .p (.bool false) :: .p (.bool false) :: .p (.bool false) :: .p (.bool false) :: .p (.bool false) :: .p (.bool false) :: .p (.bool false) :: .p (.bool false) :: .p (.bool false) :: .p (.bool false) :: .p (.bool false) :: .p (.bool false) :: .p (.bool false) :: .p (.bool false) :: .p (.bool false) :: .p (.bool false) :: .p (.bool false) :: .p (.bool false) :: .p (.bool false) :: .p (.bool false) :: .p (.bool false) :: .p (.bool false) :: .p (.bool false) :: .p (.bool false) :: .p (.bool false) :: .p (.bool false) :: .p (.bool false) :: .p (.bool false) :: .p (.bool false) :: .p (.bool false) :: .p (.bool false) :: .p (.bool false) :: .p (.bool false) :: .p (.bool false) :: .p (.bool false) :: .p (.bool false) :: .p (.bool false) :: .p (.bool false) :: .p (.bool false) :: .p (.bool false) :: .p (.bool false) :: .p (.bool false) :: .p (.bool false) :: .p (.bool false) :: .p (.bool false) :: .p (.bool false) :: .p (.bool false) :: .p (.bool false) :: .p (.bool false) :: .p (.bool false) :: .p (.bool false) :: .p (.bool false) :: .p (.bool false) :: .p (.bool false) :: .p (.bool false) :: .p (.bool false) :: .p (.bool false) :: .p (.bool false) :: .p (.bool false) :: .p (.bool false) :: .p (.bool false) :: .p (.bool false) :: .p (.bool false) :: .p (.bool false) :: .p (.bool false) :: .p (.bool false) :: .p (.bool false) :: .p (.bool false) :: .p (.bool false) :: .p (.bool false) :: .p (.bool false) :: .p (.bool false) :: .p (.bool false) :: .p (.bool false) :: .p (.bool false) :: .p (.bool false) :: .p (.bool false) :: .p (.bool false) :: .p (.bool false) :: .p (.bool false) :: .p (.bool false) :: .p (.bool false) :: .p (.bool false) :: .p (.bool false) :: .p (.bool false) :: .p (.bool false) :: .p (.bool false) :: .p (.bool false) :: .p (.bool false) :: .p (.bool false) :: .p (.bool false) :: .p (.bool false) :: .p (.bool false) :: .p (.bool false) :: .p (.bool false) :: .p (.bool false) :: .p (.bool false) :: .p (.bool false) :: []) :: [] : List AObj)) (fun n0 i20 => Zb N s_0 n0 i20) (0) h (fun i => i) ⟨(rE rfl <| rV <| rA <| rE rfl <| rA <| rE rfl <| rX <| rX <| rX <| rX <| rX <| rV <| rW <| rN), (hE rfl <| hE rfl <| hN), rfl, rfl, (roE rfl <| roE rfl <| roN)⟩ fun n0 i20 h => ?_
   first | rw [Zb] at h | simp only [Zb] at h
   rw [cX] at h
   apply iU h <;> intro h
   ·refine xB h fun b22 h => ?_
    refine Q3 k79 ?_
    refine kU h fun h => ?_
    obtain ⟨y24, hy25, h⟩ := Um h
    refine Q0f (c := cB) (e := 1) (fun _ => rfl) hy25 (off := 0) (by decide) (by first | omega | (simp only [Qep, orI, Qfd, G8, Qbp, Qbo]; omega)) ?_
    apply iU h <;> intro h
    ·cases h; exact (.p _)
    ·show Exists _
     exact ⟨(n0, (IntKind.wrap .i64 (i20 + 1))), h, Nat.lt_succ_self _, (fun i => i), ⟨(rE rfl <| rV <| rA <| rE rfl <| rA <| rE rfl <| rX <| rX <| rX <| rX <| rX <| rV <| rW <| rN), (hE rfl <| hE rfl <| hN), rfl, rfl, (roE rfl <| roE rfl <| roN)⟩⟩
   ·cases h; exact (.p _)
  ·refine lpC (τ := Nat) (fun _ => (.any :: .p (.str [43, 35]) :: a16 (a16 (a8 (a2 (.any :: .ptr 0 0 :: a8 (.any :: []))))) : List AV)) (fun pos37 => (.strIter s_0 pos37 :: [] : List AObj)) (fun n1 pos37 => Zc N s_0 n1 pos37) (0) h (fun i => i) ⟨(rA <| rE rfl <| rX <| rX <| rX <| rX <| rX <| rW <| rA <| rE rfl <| rX <| rA <| rN), (hE rfl <| hN), rfl, rfl, (roE rfl <| roN)⟩ fun n1 pos37 h => ?_
   first | rw [Zc] at h | simp only [Zc] at h
   rw [cX] at h
   apply iU h <;> intro h
   ·refine cP h Jj p2 fun v39 h => ?_
    apply iU h <;> intro h
    ·cases h; exact (.p _)
    ·show Exists _
     exact ⟨(n1, (pos37 + (Q0z s_0 pos37).2)), h, Nat.lt_succ_self _, (fun i => i), ⟨(rA <| rE rfl <| rX <| rX <| rX <| rX <| rX <| rW <| rA <| rE rfl <| rX <| rA <| rN), (hE rfl <| hN), rfl, rfl, (roE rfl <| roN)⟩⟩
   ·cases h; exact (.p _)
def Y9 (N : Nat) (s_0 : List UInt8) : Option (Bool) :=
 (Yl N s_0).bind fun v1 =>
 some (Qc .geq v1 0)
theorem Vu {N} {s_0} {r} (h : Y9 N s_0 = some r) : Xh Tryz.prog G1 36 [.str s_0, .str [43, 35]] (.bool r) := by
 refine Q7 k36 ?_
 unfold Y9 at h
 rw [cX] at h
 refine cP h Uw p2 fun v1 h => ?_
 cases h; exact (.p _)
def X2 (N : Nat) (s_0 : List UInt8) : Option (Bool) :=
 (U5 N s_0).bind fun v1 =>
 cond v1
 ((Y9 N s_0).bind fun v4 =>
 some (!v4))
 (some false)
theorem Wa {N} {s_0} {r} (h : X2 N s_0 = some r) : Xh Tryz.prog G1 16 [.str s_0] (.bool r) := by
 refine Q7 k16 ?_
 unfold X2 at h
 refine cP h Q3i p1 fun v1 h => ?_
 apply iU h <;> intro h
 ·refine cP h Vu p2 fun v4 h => ?_
  cases h; exact (.p _)
 ·cases h; exact (.p _)
def Qi (_N : Nat) (n_0 : Int) (low : Int) (high : Int) : Option (Bool) :=
 cond (Qc .geq n_0 low)
 (some (Qc .leq n_0 high))
 (some false)
theorem Qg {N} {n_0} {low} {high} {r} (h : Qi N n_0 low high = some r) : Xh Tryz.prog G1 18 [.int .i64 n_0, .int .i64 low, .int .i64 high] (.bool r) := by
 refine Q7 k18 ?_
 unfold Qi at h
 rw [cX] at h
 apply iU h <;> intro h
 ·cases h; exact (.p _)
 ·cases h; exact (.p _)
def Xw (N : Nat) (s_0 : List UInt8) : Nat → Int → Int → Option (Int)
 | 0, _, _ => none
 | n + 1, n12, s13 =>
  cond (Qc .lss s13 (((s_0.take s_0.length).drop ((IntKind.wrap .i64 ((s_0.length : Int) - 8)).toNat)).length : Int))
  ((idx ((s_0.take s_0.length).drop ((IntKind.wrap .i64 ((s_0.length : Int) - 8)).toNat)) s13).bind fun b15 =>
  Xw N s_0 n (orI .u64 (Qbp .u64 n12 8) (IntKind.wrap .u64 (b15.toNat : Int))) (IntKind.wrap .i64 (s13 + 1)))
  (some n12)
def Xv (N : Nat) (s_0 : List UInt8) : Nat → Int → Int → Option (Int)
 | 0, _, _ => none
 | n + 1, n25, s26 =>
  cond (Qc .lss s26 (s_0.length : Int))
  ((idx s_0 s26).bind fun b28 =>
  Xv N s_0 n (orI .u64 (Qbp .u64 n25 8) (IntKind.wrap .u64 (b28.toNat : Int))) (IntKind.wrap .i64 (s26 + 1)))
  (some n25)
def Jd (N : Nat) (s_0 : List UInt8) : Option (Int) :=
 cond (Qc .gtr (s_0.length : Int) 8)
 (cond (decide (0 ≤ (IntKind.wrap .i64 ((s_0.length : Int) - 8)))) (cond (Nat.ble (IntKind.wrap .i64 ((s_0.length : Int) - 8)).toNat s_0.length && Nat.ble s_0.length s_0.length) (Xw N s_0 N 0 0) none) none)
 (Xv N s_0 N 0 0)
theorem Q44 {N} {s_0} {r} (h : Jd N s_0 = some r) : Xh Tryz.prog G1 51 [.str s_0] (.int .u64 r) := by
 refine Q7 k51 ?_
 unfold Jd at h
 rw [cX] at h
 apply iU h <;> intro h
 ·refine kU h fun h => ?_
  refine kU h fun h => ?_
  refine lpC (τ := Int × Int) (fun ⟨n12, s13⟩ => (.p (.str ((s_0.take s_0.length).drop ((IntKind.wrap .i64 ((s_0.length : Int) - 8)).toNat))) :: .any :: .any :: iW n12 :: a8 (a2 (.p (.int .i64 (((s_0.take s_0.length).drop ((IntKind.wrap .i64 ((s_0.length : Int) - 8)).toNat)).length : Int)) :: iI s13 :: a8 (a2 (.any :: [])))) : List AV)) (fun ⟨_, _⟩ => ([] : List AObj)) (fun n0 ⟨n12, s13⟩ => Xw N s_0 n0 n12 s13) (0, 0) h (fun i => i) ⟨(rE rfl <| rW <| rE rfl <| rX <| rW <| rE rfl <| rE rfl <| rX <| rW <| rA <| rN), (hN), rfl, rfl, (roN)⟩ fun n0 ⟨n12, s13⟩ h => ?_
  first | rw [Xw] at h | simp only [Xw] at h
  rw [cX] at h
  apply iU h <;> intro h
  ·refine xB h fun b15 h => ?_
   show Exists _
   exact ⟨(n0, (orI .u64 (Qbp .u64 n12 8) (IntKind.wrap .u64 (b15.toNat : Int))), (IntKind.wrap .i64 (s13 + 1))), h, Nat.lt_succ_self _, (fun i => i), ⟨(rE rfl <| rW <| rE rfl <| rX <| rW <| rE rfl <| rE rfl <| rX <| rW <| rA <| rN), (hN), rfl, rfl, (roN)⟩⟩
  ·cases h; exact (.p _)
 ·refine lpC (τ := Int × Int) (fun ⟨n25, s26⟩ => (iS s_0 :: .any :: .any :: iW n25 :: a8 (a2 (iI (s_0.length : Int) :: iI s26 :: a8 (a2 (.any :: [])))) : List AV)) (fun ⟨_, _⟩ => ([] : List AObj)) (fun n1 ⟨n25, s26⟩ => Xv N s_0 n1 n25 s26) (0, 0) h (fun i => i) ⟨(rE rfl <| rW <| rE rfl <| rX <| rW <| rE rfl <| rE rfl <| rX <| rW <| rA <| rN), (hN), rfl, rfl, (roN)⟩ fun n1 ⟨n25, s26⟩ h => ?_
  first | rw [Xv] at h | simp only [Xv] at h
  rw [cX] at h
  apply iU h <;> intro h
  ·refine xB h fun b28 h => ?_
   show Exists _
   exact ⟨(n1, (orI .u64 (Qbp .u64 n25 8) (IntKind.wrap .u64 (b28.toNat : Int))), (IntKind.wrap .i64 (s26 + 1))), h, Nat.lt_succ_self _, (fun i => i), ⟨(rE rfl <| rW <| rE rfl <| rX <| rW <| rE rfl <| rE rfl <| rX <| rW <| rA <| rN), (hN), rfl, rfl, (roN)⟩⟩
  ·cases h; exact (.p _)
def Wh (N : Nat) (name : List UInt8) : Option (Int × Bool) :=
 cond (Qc .neq (name.length : Int) 2)
 (some (0, false))
 ((X2 N name).bind fun v2 =>
 cond (!v2)
 (some (0, false))
 ((Jd N name).bind fun v5 =>
 some ((IntKind.wrap .i64 v5), true)))
theorem Q2j {N} {name} {r} (h : Wh N name = some r) : Xh Tryz.prog G1 37 [.str name] (.tuple [.int .i64 r.1, .bool r.2]) := by
 refine Q7 k37 ?_
 unfold Wh at h
 rw [cX] at h
 apply iU h <;> intro h
 ·obtain rfl := Z2 h; exact u2
 ·refine cP h Wa p1 fun v2 h => ?_
  apply iU h <;> intro h
  ·obtain rfl := Z2 h; exact u2
  ·refine cP h Q44 p1 fun v5 h => ?_
   obtain rfl := Z2 h; exact u2
def V1 (_N : Nat) (l : Xi) : Option (Bool) :=
 cond (Qc .geq l.MaxPacket 16)
 (cond (Qc .leq l.MaxPacket 1048576)
 (cond (Qc .geq l.MaxDepth 0)
 (some (Qc .leq l.MaxDepth 32))
 (some false))
 (some false))
 (some false)
theorem Ux {N} {l} {r} (h : V1 N l = some r) : Xh Tryz.prog G1 80 [.agg (Xi.cells l)] (.bool r) := by
 refine Q7 k80 ?_
 unfold V1 at h
 rw [cX] at h
 apply iU h <;> intro h
 ·apply iU h <;> intro h
  ·apply iU h <;> intro h
   ·cases h; exact (.p _)
   ·cases h; exact (.p _)
  ·cases h; exact (.p _)
 ·cases h; exact (.p _)
def Ww (_N : Nat) (h_0 : W1) : Option (Bool) :=
 cond (Qc .geq h_0.Radius 0)
 (cond (Qc .leq h_0.Radius 3)
 (cond (Qc .geq (h_0.Node.length : Int) 1)
 (some (Qc .leq (h_0.Node.length : Int) 32))
 (some false))
 (some false))
 (some false)
theorem Gm {N} {h_0} {r} (h : Ww N h_0 = some r) : Xh Tryz.prog G1 83 [.agg (W1.cells h_0)] (.bool r) := by
 refine Q7 k83 ?_
 unfold Ww at h
 rw [cX] at h
 apply iU h <;> intro h
 ·apply iU h <;> intro h
  ·apply iU h <;> intro h
   ·cases h; exact (.p _)
   ·cases h; exact (.p _)
  ·cases h; exact (.p _)
 ·cases h; exact (.p _)
def Xz (N : Nat) (h_0 : W1) : Option (Bool) :=
 (Ww N h_0).bind fun v1 =>
 some (!v1)
theorem U2 {N} {h_0} {r} (h : Xz N h_0 = some r) : Xh Tryz.prog G1 82 [.agg (W1.cells h_0)] (.bool r) := by
 refine Q7 k82 ?_
 unfold Xz at h
 refine cP h Gm (.cons q2 .nil) fun v1 h => ?_
 cases h; exact (.p _)
def Xd (N : Nat) (n_0 : Int) (size : Int) : Nat → Int → (List Int) → Option (List UInt8)
 | 0, _, _ => none
 | n + 1, s14, l15 =>
  cond (Qc .lss s14 (ifB (decide (16 < size)) 16 size))
  (cond (Qc .lss s14 8)
  (cond (decide (0 ≤ (IntKind.wrap .u64 (IntKind.wrap .i64 (8 * s14))))) ((idx (l15 : List Int) (IntKind.wrap .i64 ((IntKind.wrap .i64 ((ifB (decide (16 < size)) 16 size) - 1)) - s14))).bind fun y19 =>
  Xd N n_0 size n (IntKind.wrap .i64 (s14 + 1)) ((l15 : List Int).set (Int.toNat (IntKind.wrap .i64 ((IntKind.wrap .i64 ((ifB (decide (16 < size)) 16 size) - 1)) - s14))) (IntKind.wrap .u8 (Qbo .u64 n_0 (IntKind.wrap .u64 (IntKind.wrap .i64 (8 * s14))))))) none)
  (Xd N n_0 size n (IntKind.wrap .i64 (s14 + 1)) l15))
  (some (l15.map fun n => UInt8.ofNat n.toNat))
def X8 (N : Nat) (n_0 : Int) (size : Int) : Option (List UInt8) :=
 cond (Qc .leq size 0)
 (some [])
 (cond (decide (0 ≤ (ifB (decide (16 < size)) 16 size)) && decide ((ifB (decide (16 < size)) 16 size) ≤ (ifB (decide (16 < size)) 16 size)) && decide ((ifB (decide (16 < size)) 16 size) * 1 ≤ 1099511627776)) (Xd N n_0 size N 0 (List.replicate ((ifB (decide (16 < size)) 16 size) : Int).toNat (0 : Int))) none)
theorem Yr {N} {n_0} {size} {r} (h : X8 N n_0 size = some r) : Xh Tryz.prog G1 95 [.int .u64 n_0, .int .i64 size] (.str r) := by
 refine Q7 k95 ?_
 unfold X8 at h
 rw [cX] at h
 apply iU h <;> intro h
 ·cases h; exact (.p _)
 ·refine kU h fun h => ?_
  refine Qjh (c := (cI .u8)) (0 : Int) rfl ?_
  refine lpC (τ := Int × (List Int)) (fun ⟨s14, l15⟩ => (iW n_0 :: .p (.int .i64 (ifB (decide (16 < size)) 16 size)) :: a2 (.any :: .slice 1 1 0 l15.length :: a4 (a2 (.any :: .p (.int .i64 (ifB (decide (16 < size)) 16 size)) :: iI s14 :: a16 (a2 (.any :: []))))) : List AV)) (fun ⟨_, l15⟩ => (.dead :: .cells (Ve (cI .u8) l15) :: [] : List AObj)) (fun n0 ⟨s14, l15⟩ => Xd N n_0 size n0 s14 l15) (0, (List.replicate ((ifB (decide (16 < size)) 16 size) : Int).toNat (0 : Int))) h (rho [0, 0]) ⟨(rE rfl <| rE rfl <| rW <| rA <| rL (by first | (simp; done) | (simp [Qe]; done)) rfl <| rV <| rW <| rA <| rE rfl <| rE rfl <| rX <| rX <| rW <| rA <| rN), (hD <| hO rfl <| hN), rfl, rfl, (roE rfl <| roE (Zr _ _ _) <| roN)⟩ fun n0 ⟨s14, l15⟩ h => ?_
  first | rw [Xd] at h | simp only [Xd] at h
  rw [cX] at h
  apply iU h <;> intro h
  ·apply iU h <;> intro h
   ·refine kU h fun h => ?_
    obtain ⟨y19, hy20, h⟩ := Um h
    refine Q49 (Qh0 hy20 (by first | (simp; done) | (simp [Qe]; done))) ?_
    refine Q49 (Q3z (c := (cI .u8)) (e := 1) (fun _ => rfl) hy20 (off := 0) (by omega) rfl (by decide)) ?_
    refine Q3t (c := (cI .u8)) (e := 1) (fun _ => rfl) hy20 (IntKind.wrap .u8 (Qbo .u64 n_0 (IntKind.wrap .u64 (IntKind.wrap .i64 (8 * s14))))) (off := 0) (by first | omega | (simp only [Qep, orI, Qfd, G8, Qbp, Qbo]; omega)) rfl (by simp) ?_
    show Exists _
    exact ⟨(n0, (IntKind.wrap .i64 (s14 + 1)), ((l15 : List Int).set (Int.toNat (IntKind.wrap .i64 ((IntKind.wrap .i64 ((ifB (decide (16 < size)) 16 size) - 1)) - s14))) (IntKind.wrap .u8 (Qbo .u64 n_0 (IntKind.wrap .u64 (IntKind.wrap .i64 (8 * s14))))))), h, Nat.lt_succ_self _, (fun i => i), ⟨(rE rfl <| rE rfl <| rW <| rA <| rL (by first | (simp; done) | (simp [Qe]; done)) rfl <| rV <| rW <| rA <| rE rfl <| rE rfl <| rX <| rX <| rW <| rA <| rN), (hD <| hO rfl <| hN), rfl, rfl, (roE rfl <| roE (Zr _ _ _) <| roN)⟩⟩
   ·show Exists _
    exact ⟨(n0, (IntKind.wrap .i64 (s14 + 1)), l15), h, Nat.lt_succ_self _, (fun i => i), ⟨(rE rfl <| rE rfl <| rW <| rA <| rE rfl <| rV <| rW <| rA <| rE rfl <| rE rfl <| rX <| rX <| rW <| rA <| rN), (hD <| hO rfl <| hN), rfl, rfl, (roE rfl <| roE (Zr _ _ _) <| roN)⟩⟩
  ·refine Q99 (l := l15) (n := l15.length) (by first | (simp; done) | (simp [Qe]; done)) ?_
   cases h; exact (.p _)
def Yb (N : Nat) (h_0 : W1) : Option (List UInt8) :=
 (X8 N (IntKind.wrap .u64 (IntKind.wrap .i64 (3 + (h_0.Node.length : Int)))) 1).bind fun v1 =>
 (X8 N 254 1).bind fun v3 =>
 cond (Nat.ble (v1.length + v3.length) 4611686018427387904) ((X8 N (IntKind.wrap .u64 h_0.Radius) 1).bind fun v6 =>
 cond (Nat.ble ((v1 ++ v3).length + v6.length) 4611686018427387904) (cond (Nat.ble (((v1 ++ v3) ++ v6).length + h_0.Node.length) 4611686018427387904) (some (((v1 ++ v3) ++ v6) ++ h_0.Node)) none) none) none
theorem Yw {N} {h_0} {r} (h : Yb N h_0 = some r) : Xh Tryz.prog G1 85 [.agg (W1.cells h_0)] (.str r) := by
 refine Q7 k85 ?_
 unfold Yb at h
 refine Zs ?_
 refine cD h Yr p2 fun v1 h => ?_
 refine cD h Yr p2 fun v3 h => ?_
 refine kU h fun h => ?_
 refine cD h Yr p2 fun v6 h => ?_
 refine kU h fun h => ?_
 refine kU h fun h => ?_
 cases h; exact (.p _)
def W0 (_N : Nat) : Option (Xi) :=
 some (⟨1048576, 32⟩ : Xi)
theorem Vo {N} {r} (h : W0 N = some r) : Xh Tryz.prog G1 39 [] (.agg (Xi.cells r)) := by
 refine Q7 k39 ?_
 unfold W0 at h
 obtain rfl := Z2 h; exact q2
end
end
end Go.Av
