/- The law. Part of a proof of a given statement: for every input the law returns true and the arguments read as before; no condition beyond the given row. -/
import Derived.Test.YtegedmcbfmfjeaaGreatDoorLiftF3
namespace Go.Av
noncomputable section
open Go.Proofs
set_option maxRecDepth 100000
set_option maxHeartbeats 4000000
attribute [local irreducible] V9 Xn Q4u Q4y Qgk Qhv Q7o
section
def Wl (rv : (List UInt8) → Int → Option (Q0 × Int × Int)) (rz : Int → (List UInt8) → Int → Option (Q0 × Int × Int)) (ry1 : Qh → (List UInt8) → Int → Option (Q0 × Int × Int)) (rz1 : Int → (List UInt8) → Int → Option (Q0 × Int × Int)) (_N : Nat) (s_0 : List UInt8) (most : Int) : Option (Q0 × Int × Int) :=
 cond (Q7 .lss most 0)
 (some ((⟨0, 0, [], []⟩ : Q0), 0, 2))
 (cond (Q7 .gtr most 32)
 (some ((⟨0, 0, [], []⟩ : Q0), 0, 2))
 (cond (Q1q .eql s_0 [])
 (some ((⟨0, 0, [], []⟩ : Q0), 0, 3))
 ((idx s_0 0).bind fun b4 =>
 cond (Nat.ble 1 s_0.length && Nat.ble s_0.length s_0.length) ((rz (IntKind.wrap .i64 (b4.toNat : Int)) ((s_0.take s_0.length).drop 1) most).bind fun v7 =>
 cond (Q7 .neq v7.2.2 0)
 (some ((⟨0, 0, [], []⟩ : Q0), 0, v7.2.2))
 (some (v7.1, (IntKind.wrap .i64 (v7.2.1 + 1)), 0))) none)))
theorem Q1b {rv : (List UInt8) → Int → Option (Q0 × Int × Int)} {rz : Int → (List UInt8) → Int → Option (Q0 × Int × Int)} {ry1 : Qh → (List UInt8) → Int → Option (Q0 × Int × Int)} {rz1 : Int → (List UInt8) → Int → Option (Q0 × Int × Int)} (hv1 : ∀ {s_0} {most} {r}, rv s_0 most = some r → Xe Tryz.prog G1 46 [.str s_0, .int .i64 most] (.tuple [.agg (Q0.cells r.1), .int .i64 r.2.1, .int .i64 r.2.2])) (hx1 : ∀ {code} {s_1} {most} {r}, rz code s_1 most = some r → Xe Tryz.prog G1 50 [.int .i64 code, .str s_1, .int .i64 most] (.tuple [.agg (Q0.cells r.1), .int .i64 r.2.1, .int .i64 r.2.2])) (hx2 : ∀ {c} {s_1} {most} {r}, ry1 c s_1 most = some r → Xe Tryz.prog G1 60 [.agg (Qh.cells c), .str s_1, .int .i64 most] (.tuple [.agg (Q0.cells r.1), .int .i64 r.2.1, .int .i64 r.2.2])) (hy2 : ∀ {code} {s_1} {most} {r}, rz1 code s_1 most = some r → Xe Tryz.prog G1 74 [.int .i64 code, .str s_1, .int .i64 most] (.tuple [.agg (Q0.cells r.1), .int .i64 r.2.1, .int .i64 r.2.2])) {N} {s_0} {most} {r} (h : Wl rv rz ry1 rz1 N s_0 most = some r) : Xe Tryz.prog G1 46 [.str s_0, .int .i64 most] (.tuple [.agg (Q0.cells r.1), .int .i64 r.2.1, .int .i64 r.2.2]) := by
 refine Qc k46 ?_
 unfold Wl at h
 rw [cX, cY] at h
 apply iU h <;> intro h
 ·obtain rfl := Qa h; exact (Frz.tuple' (.cons q4n p2))
 ·apply iU h <;> intro h
  ·obtain rfl := Qa h; exact (Frz.tuple' (.cons q4n p2))
  ·apply iU h <;> intro h
   ·obtain rfl := Qa h; exact (Frz.tuple' (.cons q4n p2))
   ·refine Qb ?_
    refine xB h fun b4 h => ?_
    refine kU h fun h => ?_
    refine cD h hx1 p3 fun v7 h => ?_
    apply iU h <;> intro h
    ·obtain rfl := Qa h; exact (Frz.tuple' (.cons q4n p2))
    ·obtain rfl := Qa h; exact (Frz.tuple' (.cons q4 p2))
def Yy (rv : (List UInt8) → Int → Option (Q0 × Int × Int)) (rz : Int → (List UInt8) → Int → Option (Q0 × Int × Int)) (ry1 : Qh → (List UInt8) → Int → Option (Q0 × Int × Int)) (rz1 : Int → (List UInt8) → Int → Option (Q0 × Int × Int)) (N : Nat) (code : Int) (s_1 : List UInt8) (most : Int) : Option (Q0 × Int × Int) :=
 cond (Q7 .lss most 0)
 (some ((⟨0, 0, [], []⟩ : Q0), 0, 2))
 (cond (Q7 .gtr most 32)
 (some ((⟨0, 0, [], []⟩ : Q0), 0, 2))
 ((Yz N code).bind fun v3 =>
 cond (!v3.2)
 (some ((⟨0, 0, [], []⟩ : Q0), 0, 8))
 (cond (!v3.1.Items)
 ((Wy N code s_1).bind fun v7 =>
 some (v7.1, v7.2.1, v7.2.2))
 (cond (Q7 .eql most 0)
 (some ((⟨0, 0, [], []⟩ : Q0), 0, 14))
 (cond v3.1.Sized
 ((ry1 v3.1 s_1 most).bind fun v11 =>
 some (v11.1, v11.2.1, v11.2.2))
 (cond (Q7 .eql v3.1.Kind 22)
 (some ((⟨22, 0, [], []⟩ : Q0), 0, 0))
 ((rv s_1 (IntKind.wrap .i64 (most - 1))).bind fun v14 =>
 cond (Q7 .neq v14.2.2 0)
 (some ((⟨0, 0, [], []⟩ : Q0), 0, v14.2.2))
 (cond (decide (0 ≤ v14.2.1)) (cond (Nat.ble v14.2.1.toNat s_1.length && Nat.ble s_1.length s_1.length) ((rv ((s_1.take s_1.length).drop v14.2.1.toNat) (IntKind.wrap .i64 (most - 1))).bind fun v19 =>
 cond (Q7 .neq v19.2.2 0)
 (some ((⟨0, 0, [], []⟩ : Q0), 0, v19.2.2))
 (some ((⟨25, 0, [], [v14.1, v19.1]⟩ : Q0), (IntKind.wrap .i64 (v14.2.1 + v19.2.1)), 0))) none) none))))))))
theorem Q0r {rv : (List UInt8) → Int → Option (Q0 × Int × Int)} {rz : Int → (List UInt8) → Int → Option (Q0 × Int × Int)} {ry1 : Qh → (List UInt8) → Int → Option (Q0 × Int × Int)} {rz1 : Int → (List UInt8) → Int → Option (Q0 × Int × Int)} (hv1 : ∀ {s_0} {most} {r}, rv s_0 most = some r → Xe Tryz.prog G1 46 [.str s_0, .int .i64 most] (.tuple [.agg (Q0.cells r.1), .int .i64 r.2.1, .int .i64 r.2.2])) (hx1 : ∀ {code} {s_1} {most} {r}, rz code s_1 most = some r → Xe Tryz.prog G1 50 [.int .i64 code, .str s_1, .int .i64 most] (.tuple [.agg (Q0.cells r.1), .int .i64 r.2.1, .int .i64 r.2.2])) (hx2 : ∀ {c} {s_1} {most} {r}, ry1 c s_1 most = some r → Xe Tryz.prog G1 60 [.agg (Qh.cells c), .str s_1, .int .i64 most] (.tuple [.agg (Q0.cells r.1), .int .i64 r.2.1, .int .i64 r.2.2])) (hy2 : ∀ {code} {s_1} {most} {r}, rz1 code s_1 most = some r → Xe Tryz.prog G1 74 [.int .i64 code, .str s_1, .int .i64 most] (.tuple [.agg (Q0.cells r.1), .int .i64 r.2.1, .int .i64 r.2.2])) {N} {code} {s_1} {most} {r} (h : Yy rv rz ry1 rz1 N code s_1 most = some r) : Xe Tryz.prog G1 50 [.int .i64 code, .str s_1, .int .i64 most] (.tuple [.agg (Q0.cells r.1), .int .i64 r.2.1, .int .i64 r.2.2]) := by
 refine Qc k50 ?_
 unfold Yy at h
 rw [cX] at h
 apply iU h <;> intro h
 ·obtain rfl := Qa h; exact (Frz.tuple' (.cons q4n p2))
 ·apply iU h <;> intro h
  ·obtain rfl := Qa h; exact (Frz.tuple' (.cons q4n p2))
  ·refine cP h V5 p1 fun v3 h => ?_
   apply iU h <;> intro h
   ·obtain rfl := Qa h; exact (Frz.tuple' (.cons q4n p2))
   ·apply iU h <;> intro h
    ·refine cP h Q1s p2 fun v7 h => ?_
     obtain rfl := Qa h; exact (Frz.tuple' (.cons q4 p2))
    ·apply iU h <;> intro h
     ·obtain rfl := Qa h; exact (Frz.tuple' (.cons q4n p2))
     ·apply iU h <;> intro h
      ·refine cP h hx2 (.cons (Frz.agg' p5) p2) fun v11 h => ?_
       obtain rfl := Qa h; exact (Frz.tuple' (.cons q4 p2))
      ·apply iU h <;> intro h
       ·obtain rfl := Qa h; exact (Frz.tuple' (.cons q4n p2))
       ·refine cP h hv1 p2 fun v14 h => ?_
        apply iU h <;> intro h
        ·obtain rfl := Qa h; exact (Frz.tuple' (.cons q4n p2))
        ·refine kU h fun h => ?_
         refine kU h fun h => ?_
         refine cP h hv1 p2 fun v19 h => ?_
         apply iU h <;> intro h
         ·obtain rfl := Qa h; exact (Frz.tuple' (.cons q4n p2))
         ·obtain rfl := Qa h; exact (Frz.tuple' (.cons (Frz.agg' (.cons (.p _) (.cons (.p _) (.cons (.p _) (.cons (Q0.frz_own (l := [v14.1, v19.1]) rfl trivial (by first | (simp; done) | (simp [Qv]; done))) .nil))))) p2))
def Wa (rz1 : Int → (List UInt8) → Int → Option (Q0 × Int × Int)) (N : Nat) (c : Qh) (most : Int) (v4 : Int) (v11 : Int) (b19 : UInt8) (v21 : Qh × Bool) : Nat → (List UInt8) → Int → (List Q0) → Option (Q0 × Int × Int)
 | 0, _, _, _ => none
 | n + 1, body44, i45, l46 =>
  cond (Q7 .lss i45 v11)
  ((rz1 (IntKind.wrap .i64 (b19.toNat : Int)) body44 (IntKind.wrap .i64 (most - 1))).bind fun v48 =>
  cond (Q7 .eql v48.2.2 3)
  (some ((⟨0, 0, [], []⟩ : Q0), 0, 5))
  (cond (Q7 .neq v48.2.2 0)
  (some ((⟨0, 0, [], []⟩ : Q0), 0, v48.2.2))
  (cond (Nat.ble ((l46.length + 1 + 4096) * 56) 17592186044416) (cond (decide (0 ≤ v48.2.1)) (cond (Nat.ble v48.2.1.toNat body44.length && Nat.ble body44.length body44.length) (Wa rz1 N c most v4 v11 b19 v21 n ((body44.take body44.length).drop v48.2.1.toNat) (IntKind.wrap .u64 (i45 + 1)) (l46 ++ [v48.1])) none) none) none)))
  (cond (Q1q .neq body44 [])
  (some ((⟨0, 0, [], []⟩ : Q0), 0, 5))
  ((Yn N l46).bind fun v56 =>
  cond v56
  (some ((⟨0, 0, [], []⟩ : Q0), 0, 16))
  (some ((⟨c.Kind, (IntKind.wrap .u64 v21.1.Kind), [], l46⟩ : Q0), (IntKind.wrap .i64 (c.Width + (IntKind.wrap .i64 v4))), 0))))
def X8 (rz1 : Int → (List UInt8) → Int → Option (Q0 × Int × Int)) (N : Nat) (c : Qh) (most : Int) (v4 : Int) (v11 : Int) : Nat → (List UInt8) → Int → (List Q0) → Option (Q0 × Int × Int)
 | 0, _, _, _ => none
 | n + 1, body77, i78, l79 =>
  cond (Q7 .lss i78 v11)
  ((rz1 (-1) body77 (IntKind.wrap .i64 (most - 1))).bind fun v81 =>
  cond (Q7 .eql v81.2.2 3)
  (some ((⟨0, 0, [], []⟩ : Q0), 0, 5))
  (cond (Q7 .neq v81.2.2 0)
  (some ((⟨0, 0, [], []⟩ : Q0), 0, v81.2.2))
  (cond (Nat.ble ((l79.length + 1 + 4096) * 56) 17592186044416) (cond (decide (0 ≤ v81.2.1)) (cond (Nat.ble v81.2.1.toNat body77.length && Nat.ble body77.length body77.length) (X8 rz1 N c most v4 v11 n ((body77.take body77.length).drop v81.2.1.toNat) (IntKind.wrap .u64 (i78 + 1)) (l79 ++ [v81.1])) none) none) none)))
  (cond (Q1q .neq body77 [])
  (some ((⟨0, 0, [], []⟩ : Q0), 0, 5))
  ((Yn N l79).bind fun v89 =>
  cond v89
  (some ((⟨0, 0, [], []⟩ : Q0), 0, 16))
  (some ((⟨c.Kind, 0, [], l79⟩ : Q0), (IntKind.wrap .i64 (c.Width + (IntKind.wrap .i64 v4))), 0))))
def Xb (rz1 : Int → (List UInt8) → Int → Option (Q0 × Int × Int)) (N : Nat) (c : Qh) (most : Int) (v4 : Int) (v11 : Int) (b94 : UInt8) (v96 : Qh × Bool) : Nat → (List UInt8) → Int → (List Q0) → Option (Q0 × Int × Int)
 | 0, _, _, _ => none
 | n + 1, body119, i120, l121 =>
  cond (Q7 .lss i120 v11)
  ((rz1 (IntKind.wrap .i64 (b94.toNat : Int)) body119 (IntKind.wrap .i64 (most - 1))).bind fun v123 =>
  cond (Q7 .eql v123.2.2 3)
  (some ((⟨0, 0, [], []⟩ : Q0), 0, 5))
  (cond (Q7 .neq v123.2.2 0)
  (some ((⟨0, 0, [], []⟩ : Q0), 0, v123.2.2))
  (cond (Nat.ble ((l121.length + 1 + 4096) * 56) 17592186044416) (cond (decide (0 ≤ v123.2.1)) (cond (Nat.ble v123.2.1.toNat body119.length && Nat.ble body119.length body119.length) (Xb rz1 N c most v4 v11 b94 v96 n ((body119.take body119.length).drop v123.2.1.toNat) (IntKind.wrap .u64 (i120 + 1)) (l121 ++ [v123.1])) none) none) none)))
  (cond (Q1q .neq body119 [])
  (some ((⟨0, 0, [], []⟩ : Q0), 0, 5))
  (some ((⟨c.Kind, (IntKind.wrap .u64 v96.1.Kind), [], l121⟩ : Q0), (IntKind.wrap .i64 (c.Width + (IntKind.wrap .i64 v4))), 0)))
def Xc (rz1 : Int → (List UInt8) → Int → Option (Q0 × Int × Int)) (N : Nat) (c : Qh) (most : Int) (v4 : Int) (v11 : Int) : Nat → (List UInt8) → Int → (List Q0) → Option (Q0 × Int × Int)
 | 0, _, _, _ => none
 | n + 1, body149, i150, l151 =>
  cond (Q7 .lss i150 v11)
  ((rz1 (-1) body149 (IntKind.wrap .i64 (most - 1))).bind fun v153 =>
  cond (Q7 .eql v153.2.2 3)
  (some ((⟨0, 0, [], []⟩ : Q0), 0, 5))
  (cond (Q7 .neq v153.2.2 0)
  (some ((⟨0, 0, [], []⟩ : Q0), 0, v153.2.2))
  (cond (Nat.ble ((l151.length + 1 + 4096) * 56) 17592186044416) (cond (decide (0 ≤ v153.2.1)) (cond (Nat.ble v153.2.1.toNat body149.length && Nat.ble body149.length body149.length) (Xc rz1 N c most v4 v11 n ((body149.take body149.length).drop v153.2.1.toNat) (IntKind.wrap .u64 (i150 + 1)) (l151 ++ [v153.1])) none) none) none)))
  (cond (Q1q .neq body149 [])
  (some ((⟨0, 0, [], []⟩ : Q0), 0, 5))
  (some ((⟨c.Kind, 0, [], l151⟩ : Q0), (IntKind.wrap .i64 (c.Width + (IntKind.wrap .i64 v4))), 0)))
def X9 (rv : (List UInt8) → Int → Option (Q0 × Int × Int)) (rz : Int → (List UInt8) → Int → Option (Q0 × Int × Int)) (ry1 : Qh → (List UInt8) → Int → Option (Q0 × Int × Int)) (rz1 : Int → (List UInt8) → Int → Option (Q0 × Int × Int)) (N : Nat) (c : Qh) (s_1 : List UInt8) (most : Int) : Option (Q0 × Int × Int) :=
 cond (Q7 .lss (s_1.length : Int) c.Width)
 (some ((⟨0, 0, [], []⟩ : Q0), 0, 3))
 (cond (decide (0 ≤ c.Width)) (cond (Nat.ble 0 c.Width.toNat && Nat.ble c.Width.toNat s_1.length) ((Z8 N ((s_1.take c.Width.toNat).drop 0)).bind fun v4 =>
 cond (Q7 .gtr v4 (IntKind.wrap .u64 (IntKind.wrap .i64 ((s_1.length : Int) - c.Width))))
 (some ((⟨0, 0, [], []⟩ : Q0), 0, 3))
 (cond (decide (0 ≤ (IntKind.wrap .i64 (c.Width + (IntKind.wrap .i64 v4))))) (cond (Nat.ble c.Width.toNat ((IntKind.wrap .i64 (c.Width + (IntKind.wrap .i64 v4))).toNat) && Nat.ble ((IntKind.wrap .i64 (c.Width + (IntKind.wrap .i64 v4))).toNat) s_1.length) (cond (Q7 .lss (((s_1.take ((IntKind.wrap .i64 (c.Width + (IntKind.wrap .i64 v4))).toNat)).drop c.Width.toNat).length : Int) c.Width)
 (some ((⟨0, 0, [], []⟩ : Q0), 0, 5))
 (cond (Nat.ble 0 c.Width.toNat && Nat.ble c.Width.toNat ((s_1.take ((IntKind.wrap .i64 (c.Width + (IntKind.wrap .i64 v4))).toNat)).drop c.Width.toNat).length) ((Z8 N ((((s_1.take ((IntKind.wrap .i64 (c.Width + (IntKind.wrap .i64 v4))).toNat)).drop c.Width.toNat).take c.Width.toNat).drop 0)).bind fun v11 =>
 cond (Nat.ble c.Width.toNat (((s_1.take ((IntKind.wrap .i64 (c.Width + (IntKind.wrap .i64 v4))).toNat)).drop c.Width.toNat).length) && Nat.ble (((s_1.take ((IntKind.wrap .i64 (c.Width + (IntKind.wrap .i64 v4))).toNat)).drop c.Width.toNat).length) ((s_1.take ((IntKind.wrap .i64 (c.Width + (IntKind.wrap .i64 v4))).toNat)).drop c.Width.toNat).length) (cond (Q7 .gtr v11 1000)
 (some ((⟨0, 0, [], []⟩ : Q0), 0, 4))
 (cond (Q7 .eql c.Kind 23)
 (cond (Q7 .neq ((v11 : Int).tmod 2) 0)
 (some ((⟨0, 0, [], []⟩ : Q0), 0, 5))
 (cond (Q7 .eql c.Kind 24)
 (cond (Q1q .eql ((((s_1.take ((IntKind.wrap .i64 (c.Width + (IntKind.wrap .i64 v4))).toNat)).drop c.Width.toNat).take (((s_1.take ((IntKind.wrap .i64 (c.Width + (IntKind.wrap .i64 v4))).toNat)).drop c.Width.toNat).length)).drop c.Width.toNat) [])
 (some ((⟨0, 0, [], []⟩ : Q0), 0, 5))
 ((idx ((((s_1.take ((IntKind.wrap .i64 (c.Width + (IntKind.wrap .i64 v4))).toNat)).drop c.Width.toNat).take (((s_1.take ((IntKind.wrap .i64 (c.Width + (IntKind.wrap .i64 v4))).toNat)).drop c.Width.toNat).length)).drop c.Width.toNat) 0).bind fun b19 =>
 (Yz N (IntKind.wrap .i64 (b19.toNat : Int))).bind fun v21 =>
 cond (!v21.2)
 (some ((⟨0, 0, [], []⟩ : Q0), 0, 8))
 (cond (Q7 .eql (IntKind.wrap .i64 (b19.toNat : Int)) 0)
 (some ((⟨0, 0, [], []⟩ : Q0), 0, 8))
 (cond (Nat.ble 1 (((((s_1.take ((IntKind.wrap .i64 (c.Width + (IntKind.wrap .i64 v4))).toNat)).drop c.Width.toNat).take (((s_1.take ((IntKind.wrap .i64 (c.Width + (IntKind.wrap .i64 v4))).toNat)).drop c.Width.toNat).length)).drop c.Width.toNat).length) && Nat.ble (((((s_1.take ((IntKind.wrap .i64 (c.Width + (IntKind.wrap .i64 v4))).toNat)).drop c.Width.toNat).take (((s_1.take ((IntKind.wrap .i64 (c.Width + (IntKind.wrap .i64 v4))).toNat)).drop c.Width.toNat).length)).drop c.Width.toNat).length) ((((s_1.take ((IntKind.wrap .i64 (c.Width + (IntKind.wrap .i64 v4))).toNat)).drop c.Width.toNat).take (((s_1.take ((IntKind.wrap .i64 (c.Width + (IntKind.wrap .i64 v4))).toNat)).drop c.Width.toNat).length)).drop c.Width.toNat).length) (Wa rz1 N c most v4 v11 b19 v21 N ((((((s_1.take ((IntKind.wrap .i64 (c.Width + (IntKind.wrap .i64 v4))).toNat)).drop c.Width.toNat).take (((s_1.take ((IntKind.wrap .i64 (c.Width + (IntKind.wrap .i64 v4))).toNat)).drop c.Width.toNat).length)).drop c.Width.toNat).take (((((s_1.take ((IntKind.wrap .i64 (c.Width + (IntKind.wrap .i64 v4))).toNat)).drop c.Width.toNat).take (((s_1.take ((IntKind.wrap .i64 (c.Width + (IntKind.wrap .i64 v4))).toNat)).drop c.Width.toNat).length)).drop c.Width.toNat).length)).drop 1) 0 []) none))))
 (X8 rz1 N c most v4 v11 N ((((s_1.take ((IntKind.wrap .i64 (c.Width + (IntKind.wrap .i64 v4))).toNat)).drop c.Width.toNat).take (((s_1.take ((IntKind.wrap .i64 (c.Width + (IntKind.wrap .i64 v4))).toNat)).drop c.Width.toNat).length)).drop c.Width.toNat) 0 [])))
 (cond (Q7 .eql c.Kind 24)
 (cond (Q1q .eql ((((s_1.take ((IntKind.wrap .i64 (c.Width + (IntKind.wrap .i64 v4))).toNat)).drop c.Width.toNat).take (((s_1.take ((IntKind.wrap .i64 (c.Width + (IntKind.wrap .i64 v4))).toNat)).drop c.Width.toNat).length)).drop c.Width.toNat) [])
 (some ((⟨0, 0, [], []⟩ : Q0), 0, 5))
 ((idx ((((s_1.take ((IntKind.wrap .i64 (c.Width + (IntKind.wrap .i64 v4))).toNat)).drop c.Width.toNat).take (((s_1.take ((IntKind.wrap .i64 (c.Width + (IntKind.wrap .i64 v4))).toNat)).drop c.Width.toNat).length)).drop c.Width.toNat) 0).bind fun b94 =>
 (Yz N (IntKind.wrap .i64 (b94.toNat : Int))).bind fun v96 =>
 cond (!v96.2)
 (some ((⟨0, 0, [], []⟩ : Q0), 0, 8))
 (cond (Q7 .eql (IntKind.wrap .i64 (b94.toNat : Int)) 0)
 (some ((⟨0, 0, [], []⟩ : Q0), 0, 8))
 (cond (Nat.ble 1 (((((s_1.take ((IntKind.wrap .i64 (c.Width + (IntKind.wrap .i64 v4))).toNat)).drop c.Width.toNat).take (((s_1.take ((IntKind.wrap .i64 (c.Width + (IntKind.wrap .i64 v4))).toNat)).drop c.Width.toNat).length)).drop c.Width.toNat).length) && Nat.ble (((((s_1.take ((IntKind.wrap .i64 (c.Width + (IntKind.wrap .i64 v4))).toNat)).drop c.Width.toNat).take (((s_1.take ((IntKind.wrap .i64 (c.Width + (IntKind.wrap .i64 v4))).toNat)).drop c.Width.toNat).length)).drop c.Width.toNat).length) ((((s_1.take ((IntKind.wrap .i64 (c.Width + (IntKind.wrap .i64 v4))).toNat)).drop c.Width.toNat).take (((s_1.take ((IntKind.wrap .i64 (c.Width + (IntKind.wrap .i64 v4))).toNat)).drop c.Width.toNat).length)).drop c.Width.toNat).length) (Xb rz1 N c most v4 v11 b94 v96 N ((((((s_1.take ((IntKind.wrap .i64 (c.Width + (IntKind.wrap .i64 v4))).toNat)).drop c.Width.toNat).take (((s_1.take ((IntKind.wrap .i64 (c.Width + (IntKind.wrap .i64 v4))).toNat)).drop c.Width.toNat).length)).drop c.Width.toNat).take (((((s_1.take ((IntKind.wrap .i64 (c.Width + (IntKind.wrap .i64 v4))).toNat)).drop c.Width.toNat).take (((s_1.take ((IntKind.wrap .i64 (c.Width + (IntKind.wrap .i64 v4))).toNat)).drop c.Width.toNat).length)).drop c.Width.toNat).length)).drop 1) 0 []) none))))
 (Xc rz1 N c most v4 v11 N ((((s_1.take ((IntKind.wrap .i64 (c.Width + (IntKind.wrap .i64 v4))).toNat)).drop c.Width.toNat).take (((s_1.take ((IntKind.wrap .i64 (c.Width + (IntKind.wrap .i64 v4))).toNat)).drop c.Width.toNat).length)).drop c.Width.toNat) 0 [])))) none) none)) none) none)) none) none)
theorem Q0f {rv : (List UInt8) → Int → Option (Q0 × Int × Int)} {rz : Int → (List UInt8) → Int → Option (Q0 × Int × Int)} {ry1 : Qh → (List UInt8) → Int → Option (Q0 × Int × Int)} {rz1 : Int → (List UInt8) → Int → Option (Q0 × Int × Int)} (hv1 : ∀ {s_0} {most} {r}, rv s_0 most = some r → Xe Tryz.prog G1 46 [.str s_0, .int .i64 most] (.tuple [.agg (Q0.cells r.1), .int .i64 r.2.1, .int .i64 r.2.2])) (hx1 : ∀ {code} {s_1} {most} {r}, rz code s_1 most = some r → Xe Tryz.prog G1 50 [.int .i64 code, .str s_1, .int .i64 most] (.tuple [.agg (Q0.cells r.1), .int .i64 r.2.1, .int .i64 r.2.2])) (hx2 : ∀ {c} {s_1} {most} {r}, ry1 c s_1 most = some r → Xe Tryz.prog G1 60 [.agg (Qh.cells c), .str s_1, .int .i64 most] (.tuple [.agg (Q0.cells r.1), .int .i64 r.2.1, .int .i64 r.2.2])) (hy2 : ∀ {code} {s_1} {most} {r}, rz1 code s_1 most = some r → Xe Tryz.prog G1 74 [.int .i64 code, .str s_1, .int .i64 most] (.tuple [.agg (Q0.cells r.1), .int .i64 r.2.1, .int .i64 r.2.2])) {N} {c} {s_1} {most} {r} (h : X9 rv rz ry1 rz1 N c s_1 most = some r) : Xe Tryz.prog G1 60 [.agg (Qh.cells c), .str s_1, .int .i64 most] (.tuple [.agg (Q0.cells r.1), .int .i64 r.2.1, .int .i64 r.2.2]) := by
 refine Qc k60 ?_
 unfold X9 at h
 rw [cX, cY] at h
 apply iU h <;> intro h
 ·obtain rfl := Qa h; exact (Frz.tuple' (.cons q4n p2))
 ·obtain ⟨hk2, h⟩ := Jx h
  refine Uw hk2 ?_
  refine kU h fun h => ?_
  refine cP h Yb p1 fun v4 h => ?_
  apply iU h <;> intro h
  ·obtain rfl := Qa h; exact (Frz.tuple' (.cons q4n p2))
  ·refine Uw hk2 ?_
   refine kU h fun h => ?_
   refine kU h fun h => ?_
   apply iU h <;> intro h
   ·obtain rfl := Qa h; exact (Frz.tuple' (.cons q4n p2))
   ·refine Uw hk2 ?_
    refine kU h fun h => ?_
    refine cP h Yb p1 fun v11 h => ?_
    refine Uw hk2 ?_
    refine kU h fun h => ?_
    apply iU h <;> intro h
    ·obtain rfl := Qa h; exact (Frz.tuple' (.cons q4n p2))
    ·refine ifO h (fun hc15 h => ?_) (fun hc15 h => ?_)
     ·apply iU h <;> intro h
      ·obtain rfl := Qa h; exact (Frz.tuple' (.cons q4n p2))
      ·refine ifO h (fun hc17 h => ?_) (fun hc17 h => ?_)
       ·apply iU h <;> intro h
        ·obtain rfl := Qa h; exact (Frz.tuple' (.cons q4n p2))
        ·refine ifT hc17 ?_
         refine xB h fun b19 h => ?_
         refine cP h V5 p1 fun v21 h => ?_
         apply iU h <;> intro h
         ·obtain rfl := Qa h; exact (Frz.tuple' (.cons q4n p2))
         ·apply iU h <;> intro h
          ·obtain rfl := Qa h; exact (Frz.tuple' (.cons q4n p2))
          ·refine Qb ?_
           refine kU h fun h => ?_
           refine lpC (τ := (List UInt8) × Int × (List Q0)) (fun ⟨body44, i45, _⟩ => (.any :: .any :: iI most :: .ptr 0 0 :: .any :: .any :: .ptr 1 0 :: a4 (.p (.int .i64 (IntKind.wrap .i64 (c.Width + (IntKind.wrap .i64 v4)))) :: iS body44 :: iW v11 :: .ptr 2 0 :: iI (IntKind.wrap .i64 (b19.toNat : Int)) :: .any :: .any :: iW i45 :: a16 (a16 (a16 (a16 (a16 (a16 (a16 (a16 (a8 ([])))))))))) : List AV)) (fun ⟨_, _, l46⟩ => (.cells (iI c.Code :: iI c.Kind :: iI c.Width :: .p (.bool c.Sized) :: .p (.bool c.Items) :: []) :: .cells (iI 0 :: iW 0 :: iS [] :: .p .nilSlice :: []) :: .cells (iI c.Kind :: iW (IntKind.wrap .u64 v21.1.Kind) :: iS [] :: .slice 4 4 0 l46.length :: []) :: .cells (iI v21.1.Code :: iI v21.1.Kind :: iI v21.1.Width :: .p (.bool v21.1.Sized) :: .p (.bool v21.1.Items) :: []) :: .cells (Yf Q0.cells l46) :: [] : List AObj)) (fun n0 ⟨body44, i45, l46⟩ => Wa rz1 N c most v4 v11 b19 v21 n0 body44 i45 l46) (((((((s_1.take ((IntKind.wrap .i64 (c.Width + (IntKind.wrap .i64 v4))).toNat)).drop c.Width.toNat).take (((s_1.take ((IntKind.wrap .i64 (c.Width + (IntKind.wrap .i64 v4))).toNat)).drop c.Width.toNat).length)).drop c.Width.toNat).take (((((s_1.take ((IntKind.wrap .i64 (c.Width + (IntKind.wrap .i64 v4))).toNat)).drop c.Width.toNat).take (((s_1.take ((IntKind.wrap .i64 (c.Width + (IntKind.wrap .i64 v4))).toNat)).drop c.Width.toNat).length)).drop c.Width.toNat).length)).drop 1), 0, []) h (fun i => i) ⟨(rW <| rE rfl <| rE rfl <| rW <| rE rfl <| rV <| rE rfl <| rE rfl <| rE rfl <| rE rfl <| rE rfl <| rW <| rE rfl <| rX <| rX <| rX <| rX <| rX <| rX <| rX <| rX <| rX <| rX <| rX <| rX <| rX <| rX <| rX <| rX <| rX <| rN), (hE rfl <| hE rfl <| hC rfl (rE rfl <| rE rfl <| rE rfl <| rS <| rN) <| hE rfl <| hV lb <| hN), rfl, rfl, (roE rfl <| roE rfl <| roE rfl <| roE rfl <| roE (Q2 _ _ _) <| roN)⟩ fun n0 ⟨body44, i45, l46⟩ h => ?_
           simp only [Wa] at h
           rw [cX, cY] at h
           apply iU h <;> intro h
           ·refine cP h hy2 p3 fun v48 h => ?_
            apply iU h <;> intro h
            ·refine ifT (cF (by decide)) ?_
             obtain rfl := Qa h; exact (Frz.tuple' (.cons q4n p2))
            ·apply iU h <;> intro h
             ·obtain rfl := Qa h; exact (Frz.tuple' (.cons q4n p2))
             ·refine Qb ?_
              obtain ⟨hk52, h⟩ := Jx h
              refine Uw (Wu (c := Q0.cells) (e := 4) (fun _ => rfl) (by first | (simp; done) | (simp [Qv]; done)) hk52) ?_
              refine U1 (c := Q0.cells) [v48.1] rfl ?_
              refine kU h fun h => ?_
              refine kU h fun h => ?_
              show Exists _
              exact ⟨(n0, ((body44.take body44.length).drop v48.2.1.toNat), (IntKind.wrap .u64 (i45 + 1)), (l46 ++ [v48.1])), h, Nat.lt_succ_self _, (rho [0, 1, 2, 3, 7]), ⟨(rW <| rE rfl <| rE rfl <| rW <| rE rfl <| rV <| rE rfl <| rE rfl <| rE rfl <| rE rfl <| rE rfl <| rW <| rE rfl <| rX <| rX <| rX <| rX <| rX <| rX <| rX <| rX <| rX <| rX <| rX <| rX <| rX <| rX <| rX <| rX <| rX <| rN), (hE rfl <| hE rfl <| hC rfl (rE rfl <| rE rfl <| rE rfl <| rL (by first | (simp; done) | (simp [Qv]; done)) rfl <| rN) <| hE rfl <| hO rfl <| hN), rfl, rfl, (roE rfl <| roE rfl <| roE rfl <| roE rfl <| roE (Q2 _ _ _) <| roN)⟩⟩
           ·apply iU h <;> intro h
            ·obtain rfl := Qa h; exact (Frz.tuple' (.cons q4n p2))
            ·refine ifT hc15 ?_
             refine cK h Uv (.cons (Q0.frz_own (l := l46) rfl trivial (by first | (simp; done) | (simp [Qv]; done))) .nil) fun v56 h => ?_
             apply iU h <;> intro h
             ·obtain rfl := Qa h; exact (Frz.tuple' (.cons q4n p2))
             ·obtain rfl := Qa h; exact (Frz.tuple' (.cons (Frz.agg' (.cons (.p _) (.cons (.p _) (.cons (.p _) (.cons (Q0.frz_own (l := l46) rfl trivial (by first | (simp; done) | (simp [Qv]; done))) .nil))))) p2))
       ·refine ifF hc17 ?_
        refine lpC (τ := (List UInt8) × Int × (List Q0)) (fun ⟨body77, i78, _⟩ => (.any :: .any :: iI most :: .ptr 0 0 :: .any :: .any :: .ptr 1 0 :: a4 (.p (.int .i64 (IntKind.wrap .i64 (c.Width + (IntKind.wrap .i64 v4)))) :: iS body77 :: iW v11 :: .ptr 2 0 :: iI (-1) :: .any :: .any :: iW i78 :: a16 (a16 (a16 (a16 (a16 (a16 (a16 (a16 (a8 ([])))))))))) : List AV)) (fun ⟨_, _, l79⟩ => (.cells (iI c.Code :: iI c.Kind :: iI c.Width :: .p (.bool c.Sized) :: .p (.bool c.Items) :: []) :: .cells (iI 0 :: iW 0 :: iS [] :: .p .nilSlice :: []) :: .cells (iI c.Kind :: iW 0 :: iS [] :: .slice 4 3 0 l79.length :: []) :: .cells (Yf Q0.cells l79) :: [] : List AObj)) (fun n1 ⟨body77, i78, l79⟩ => X8 rz1 N c most v4 v11 n1 body77 i78 l79) (((((s_1.take ((IntKind.wrap .i64 (c.Width + (IntKind.wrap .i64 v4))).toNat)).drop c.Width.toNat).take (((s_1.take ((IntKind.wrap .i64 (c.Width + (IntKind.wrap .i64 v4))).toNat)).drop c.Width.toNat).length)).drop c.Width.toNat), 0, []) h (fun i => i) ⟨(rW <| rE rfl <| rE rfl <| rW <| rE rfl <| rV <| rE rfl <| rE rfl <| rE rfl <| rE rfl <| rE rfl <| rW <| rE rfl <| rX <| rX <| rX <| rX <| rX <| rX <| rX <| rX <| rX <| rX <| rX <| rX <| rX <| rX <| rX <| rX <| rX <| rN), (hE rfl <| hE rfl <| hC rfl (rE rfl <| rE rfl <| rE rfl <| rS <| rN) <| hV lb <| hN), rfl, rfl, (roE rfl <| roE rfl <| roE rfl <| roE (Q2 _ _ _) <| roN)⟩ fun n1 ⟨body77, i78, l79⟩ h => ?_
        simp only [X8] at h
        rw [cX, cY] at h
        apply iU h <;> intro h
        ·refine cP h hy2 p3 fun v81 h => ?_
         apply iU h <;> intro h
         ·refine ifT (cF (by decide)) ?_
          obtain rfl := Qa h; exact (Frz.tuple' (.cons q4n p2))
         ·apply iU h <;> intro h
          ·obtain rfl := Qa h; exact (Frz.tuple' (.cons q4n p2))
          ·refine Qb ?_
           obtain ⟨hk85, h⟩ := Jx h
           refine Uw (Wu (c := Q0.cells) (e := 4) (fun _ => rfl) (by first | (simp; done) | (simp [Qv]; done)) hk85) ?_
           refine U1 (c := Q0.cells) [v81.1] rfl ?_
           refine kU h fun h => ?_
           refine kU h fun h => ?_
           show Exists _
           exact ⟨(n1, ((body77.take body77.length).drop v81.2.1.toNat), (IntKind.wrap .u64 (i78 + 1)), (l79 ++ [v81.1])), h, Nat.lt_succ_self _, (rho [0, 1, 2, 6]), ⟨(rW <| rE rfl <| rE rfl <| rW <| rE rfl <| rV <| rE rfl <| rE rfl <| rE rfl <| rE rfl <| rE rfl <| rW <| rE rfl <| rX <| rX <| rX <| rX <| rX <| rX <| rX <| rX <| rX <| rX <| rX <| rX <| rX <| rX <| rX <| rX <| rX <| rN), (hE rfl <| hE rfl <| hC rfl (rE rfl <| rE rfl <| rE rfl <| rL (by first | (simp; done) | (simp [Qv]; done)) rfl <| rN) <| hO rfl <| hN), rfl, rfl, (roE rfl <| roE rfl <| roE rfl <| roE (Q2 _ _ _) <| roN)⟩⟩
        ·apply iU h <;> intro h
         ·obtain rfl := Qa h; exact (Frz.tuple' (.cons q4n p2))
         ·refine ifT hc15 ?_
          refine cK h Uv (.cons (Q0.frz_own (l := l79) rfl trivial (by first | (simp; done) | (simp [Qv]; done))) .nil) fun v89 h => ?_
          apply iU h <;> intro h
          ·obtain rfl := Qa h; exact (Frz.tuple' (.cons q4n p2))
          ·obtain rfl := Qa h; exact (Frz.tuple' (.cons (Frz.agg' (.cons (.p _) (.cons (.p _) (.cons (.p _) (.cons (Q0.frz_own (l := l79) rfl trivial (by first | (simp; done) | (simp [Qv]; done))) .nil))))) p2))
     ·refine ifO h (fun hc92 h => ?_) (fun hc92 h => ?_)
      ·apply iU h <;> intro h
       ·obtain rfl := Qa h; exact (Frz.tuple' (.cons q4n p2))
       ·refine ifT hc92 ?_
        refine xB h fun b94 h => ?_
        refine cP h V5 p1 fun v96 h => ?_
        apply iU h <;> intro h
        ·obtain rfl := Qa h; exact (Frz.tuple' (.cons q4n p2))
        ·apply iU h <;> intro h
         ·obtain rfl := Qa h; exact (Frz.tuple' (.cons q4n p2))
         ·refine Qb ?_
          refine kU h fun h => ?_
          refine lpC (τ := (List UInt8) × Int × (List Q0)) (fun ⟨body119, i120, _⟩ => (.any :: .any :: iI most :: .ptr 0 0 :: .any :: .any :: .ptr 1 0 :: a4 (.p (.int .i64 (IntKind.wrap .i64 (c.Width + (IntKind.wrap .i64 v4)))) :: iS body119 :: iW v11 :: .ptr 2 0 :: iI (IntKind.wrap .i64 (b94.toNat : Int)) :: .any :: .any :: iW i120 :: a16 (a16 (a16 (a16 (a16 (a16 (a16 (a16 (a8 ([])))))))))) : List AV)) (fun ⟨_, _, l121⟩ => (.cells (iI c.Code :: iI c.Kind :: iI c.Width :: .p (.bool c.Sized) :: .p (.bool c.Items) :: []) :: .cells (iI 0 :: iW 0 :: iS [] :: .p .nilSlice :: []) :: .cells (iI c.Kind :: iW (IntKind.wrap .u64 v96.1.Kind) :: iS [] :: .slice 4 4 0 l121.length :: []) :: .cells (iI v96.1.Code :: iI v96.1.Kind :: iI v96.1.Width :: .p (.bool v96.1.Sized) :: .p (.bool v96.1.Items) :: []) :: .cells (Yf Q0.cells l121) :: [] : List AObj)) (fun n2 ⟨body119, i120, l121⟩ => Xb rz1 N c most v4 v11 b94 v96 n2 body119 i120 l121) (((((((s_1.take ((IntKind.wrap .i64 (c.Width + (IntKind.wrap .i64 v4))).toNat)).drop c.Width.toNat).take (((s_1.take ((IntKind.wrap .i64 (c.Width + (IntKind.wrap .i64 v4))).toNat)).drop c.Width.toNat).length)).drop c.Width.toNat).take (((((s_1.take ((IntKind.wrap .i64 (c.Width + (IntKind.wrap .i64 v4))).toNat)).drop c.Width.toNat).take (((s_1.take ((IntKind.wrap .i64 (c.Width + (IntKind.wrap .i64 v4))).toNat)).drop c.Width.toNat).length)).drop c.Width.toNat).length)).drop 1), 0, []) h (fun i => i) ⟨(rW <| rE rfl <| rE rfl <| rW <| rE rfl <| rV <| rE rfl <| rE rfl <| rE rfl <| rE rfl <| rE rfl <| rW <| rE rfl <| rX <| rX <| rX <| rX <| rX <| rX <| rX <| rX <| rX <| rX <| rX <| rX <| rX <| rX <| rX <| rX <| rX <| rN), (hE rfl <| hE rfl <| hC rfl (rE rfl <| rE rfl <| rE rfl <| rS <| rN) <| hE rfl <| hV lb <| hN), rfl, rfl, (roE rfl <| roE rfl <| roE rfl <| roE rfl <| roE (Q2 _ _ _) <| roN)⟩ fun n2 ⟨body119, i120, l121⟩ h => ?_
          simp only [Xb] at h
          rw [cX, cY] at h
          apply iU h <;> intro h
          ·refine cP h hy2 p3 fun v123 h => ?_
           apply iU h <;> intro h
           ·refine ifT (cF (by decide)) ?_
            obtain rfl := Qa h; exact (Frz.tuple' (.cons q4n p2))
           ·apply iU h <;> intro h
            ·obtain rfl := Qa h; exact (Frz.tuple' (.cons q4n p2))
            ·refine Qb ?_
             obtain ⟨hk127, h⟩ := Jx h
             refine Uw (Wu (c := Q0.cells) (e := 4) (fun _ => rfl) (by first | (simp; done) | (simp [Qv]; done)) hk127) ?_
             refine U1 (c := Q0.cells) [v123.1] rfl ?_
             refine kU h fun h => ?_
             refine kU h fun h => ?_
             show Exists _
             exact ⟨(n2, ((body119.take body119.length).drop v123.2.1.toNat), (IntKind.wrap .u64 (i120 + 1)), (l121 ++ [v123.1])), h, Nat.lt_succ_self _, (rho [0, 1, 2, 3, 7]), ⟨(rW <| rE rfl <| rE rfl <| rW <| rE rfl <| rV <| rE rfl <| rE rfl <| rE rfl <| rE rfl <| rE rfl <| rW <| rE rfl <| rX <| rX <| rX <| rX <| rX <| rX <| rX <| rX <| rX <| rX <| rX <| rX <| rX <| rX <| rX <| rX <| rX <| rN), (hE rfl <| hE rfl <| hC rfl (rE rfl <| rE rfl <| rE rfl <| rL (by first | (simp; done) | (simp [Qv]; done)) rfl <| rN) <| hE rfl <| hO rfl <| hN), rfl, rfl, (roE rfl <| roE rfl <| roE rfl <| roE rfl <| roE (Q2 _ _ _) <| roN)⟩⟩
          ·apply iU h <;> intro h
           ·obtain rfl := Qa h; exact (Frz.tuple' (.cons q4n p2))
           ·refine ifF hc15 ?_
            obtain rfl := Qa h; exact (Frz.tuple' (.cons (Frz.agg' (.cons (.p _) (.cons (.p _) (.cons (.p _) (.cons (Q0.frz_own (l := l121) rfl trivial (by first | (simp; done) | (simp [Qv]; done))) .nil))))) p2))
      ·refine ifF hc92 ?_
       refine lpC (τ := (List UInt8) × Int × (List Q0)) (fun ⟨body149, i150, _⟩ => (.any :: .any :: iI most :: .ptr 0 0 :: .any :: .any :: .ptr 1 0 :: a4 (.p (.int .i64 (IntKind.wrap .i64 (c.Width + (IntKind.wrap .i64 v4)))) :: iS body149 :: iW v11 :: .ptr 2 0 :: iI (-1) :: .any :: .any :: iW i150 :: a16 (a16 (a16 (a16 (a16 (a16 (a16 (a16 (a8 ([])))))))))) : List AV)) (fun ⟨_, _, l151⟩ => (.cells (iI c.Code :: iI c.Kind :: iI c.Width :: .p (.bool c.Sized) :: .p (.bool c.Items) :: []) :: .cells (iI 0 :: iW 0 :: iS [] :: .p .nilSlice :: []) :: .cells (iI c.Kind :: iW 0 :: iS [] :: .slice 4 3 0 l151.length :: []) :: .cells (Yf Q0.cells l151) :: [] : List AObj)) (fun n3 ⟨body149, i150, l151⟩ => Xc rz1 N c most v4 v11 n3 body149 i150 l151) (((((s_1.take ((IntKind.wrap .i64 (c.Width + (IntKind.wrap .i64 v4))).toNat)).drop c.Width.toNat).take (((s_1.take ((IntKind.wrap .i64 (c.Width + (IntKind.wrap .i64 v4))).toNat)).drop c.Width.toNat).length)).drop c.Width.toNat), 0, []) h (fun i => i) ⟨(rW <| rE rfl <| rE rfl <| rW <| rE rfl <| rV <| rE rfl <| rE rfl <| rE rfl <| rE rfl <| rE rfl <| rW <| rE rfl <| rX <| rX <| rX <| rX <| rX <| rX <| rX <| rX <| rX <| rX <| rX <| rX <| rX <| rX <| rX <| rX <| rX <| rN), (hE rfl <| hE rfl <| hC rfl (rE rfl <| rE rfl <| rE rfl <| rS <| rN) <| hV lb <| hN), rfl, rfl, (roE rfl <| roE rfl <| roE rfl <| roE (Q2 _ _ _) <| roN)⟩ fun n3 ⟨body149, i150, l151⟩ h => ?_
       simp only [Xc] at h
       rw [cX, cY] at h
       apply iU h <;> intro h
       ·refine cP h hy2 p3 fun v153 h => ?_
        apply iU h <;> intro h
        ·refine ifT (cF (by decide)) ?_
         obtain rfl := Qa h; exact (Frz.tuple' (.cons q4n p2))
        ·apply iU h <;> intro h
         ·obtain rfl := Qa h; exact (Frz.tuple' (.cons q4n p2))
         ·refine Qb ?_
          obtain ⟨hk157, h⟩ := Jx h
          refine Uw (Wu (c := Q0.cells) (e := 4) (fun _ => rfl) (by first | (simp; done) | (simp [Qv]; done)) hk157) ?_
          refine U1 (c := Q0.cells) [v153.1] rfl ?_
          refine kU h fun h => ?_
          refine kU h fun h => ?_
          show Exists _
          exact ⟨(n3, ((body149.take body149.length).drop v153.2.1.toNat), (IntKind.wrap .u64 (i150 + 1)), (l151 ++ [v153.1])), h, Nat.lt_succ_self _, (rho [0, 1, 2, 6]), ⟨(rW <| rE rfl <| rE rfl <| rW <| rE rfl <| rV <| rE rfl <| rE rfl <| rE rfl <| rE rfl <| rE rfl <| rW <| rE rfl <| rX <| rX <| rX <| rX <| rX <| rX <| rX <| rX <| rX <| rX <| rX <| rX <| rX <| rX <| rX <| rX <| rX <| rN), (hE rfl <| hE rfl <| hC rfl (rE rfl <| rE rfl <| rE rfl <| rL (by first | (simp; done) | (simp [Qv]; done)) rfl <| rN) <| hO rfl <| hN), rfl, rfl, (roE rfl <| roE rfl <| roE rfl <| roE (Q2 _ _ _) <| roN)⟩⟩
       ·apply iU h <;> intro h
        ·obtain rfl := Qa h; exact (Frz.tuple' (.cons q4n p2))
        ·refine ifF hc15 ?_
         obtain rfl := Qa h; exact (Frz.tuple' (.cons (Frz.agg' (.cons (.p _) (.cons (.p _) (.cons (.p _) (.cons (Q0.frz_own (l := l151) rfl trivial (by first | (simp; done) | (simp [Qv]; done))) .nil))))) p2))
def Yx (rv : (List UInt8) → Int → Option (Q0 × Int × Int)) (rz : Int → (List UInt8) → Int → Option (Q0 × Int × Int)) (ry1 : Qh → (List UInt8) → Int → Option (Q0 × Int × Int)) (rz1 : Int → (List UInt8) → Int → Option (Q0 × Int × Int)) (_N : Nat) (code : Int) (s_1 : List UInt8) (most : Int) : Option (Q0 × Int × Int) :=
 cond (Q7 .lss code 0)
 ((rv s_1 most).bind fun v2 =>
 some (v2.1, v2.2.1, v2.2.2))
 ((rz code s_1 most).bind fun v4 =>
 some (v4.1, v4.2.1, v4.2.2))
theorem Q14 {rv : (List UInt8) → Int → Option (Q0 × Int × Int)} {rz : Int → (List UInt8) → Int → Option (Q0 × Int × Int)} {ry1 : Qh → (List UInt8) → Int → Option (Q0 × Int × Int)} {rz1 : Int → (List UInt8) → Int → Option (Q0 × Int × Int)} (hv1 : ∀ {s_0} {most} {r}, rv s_0 most = some r → Xe Tryz.prog G1 46 [.str s_0, .int .i64 most] (.tuple [.agg (Q0.cells r.1), .int .i64 r.2.1, .int .i64 r.2.2])) (hx1 : ∀ {code} {s_1} {most} {r}, rz code s_1 most = some r → Xe Tryz.prog G1 50 [.int .i64 code, .str s_1, .int .i64 most] (.tuple [.agg (Q0.cells r.1), .int .i64 r.2.1, .int .i64 r.2.2])) (hx2 : ∀ {c} {s_1} {most} {r}, ry1 c s_1 most = some r → Xe Tryz.prog G1 60 [.agg (Qh.cells c), .str s_1, .int .i64 most] (.tuple [.agg (Q0.cells r.1), .int .i64 r.2.1, .int .i64 r.2.2])) (hy2 : ∀ {code} {s_1} {most} {r}, rz1 code s_1 most = some r → Xe Tryz.prog G1 74 [.int .i64 code, .str s_1, .int .i64 most] (.tuple [.agg (Q0.cells r.1), .int .i64 r.2.1, .int .i64 r.2.2])) {N} {code} {s_1} {most} {r} (h : Yx rv rz ry1 rz1 N code s_1 most = some r) : Xe Tryz.prog G1 74 [.int .i64 code, .str s_1, .int .i64 most] (.tuple [.agg (Q0.cells r.1), .int .i64 r.2.1, .int .i64 r.2.2]) := by
 refine Qc k74 ?_
 unfold Yx at h
 rw [cX] at h
 apply iU h <;> intro h
 ·refine cP h hv1 p2 fun v2 h => ?_
  obtain rfl := Qa h; exact (Frz.tuple' (.cons q4 p2))
 ·refine cP h hx1 p3 fun v4 h => ?_
  obtain rfl := Qa h; exact (Frz.tuple' (.cons q4 p2))
def Q8 : Nat → ((List UInt8) → Int → Option (Q0 × Int × Int)) × (Int → (List UInt8) → Int → Option (Q0 × Int × Int)) × (Qh → (List UInt8) → Int → Option (Q0 × Int × Int)) × (Int → (List UInt8) → Int → Option (Q0 × Int × Int))
 | 0 => (fun _ _ => none, fun _ _ _ => none, fun _ _ _ => none, fun _ _ _ => none)
 | N + 1 => (Wl ((Q8 N).1) ((Q8 N).2.1) ((Q8 N).2.2.1) ((Q8 N).2.2.2) N, Yy ((Q8 N).1) ((Q8 N).2.1) ((Q8 N).2.2.1) ((Q8 N).2.2.2) N, X9 ((Q8 N).1) ((Q8 N).2.1) ((Q8 N).2.2.1) ((Q8 N).2.2.2) N, Yx ((Q8 N).1) ((Q8 N).2.1) ((Q8 N).2.2.1) ((Q8 N).2.2.2) N)
def Ze (N : Nat) : (List UInt8) → Int → Option (Q0 × Int × Int) := (Q8 N).1
def Yd (N : Nat) : Int → (List UInt8) → Int → Option (Q0 × Int × Int) := (Q8 N).2.1
def Xa (N : Nat) : Qh → (List UInt8) → Int → Option (Q0 × Int × Int) := (Q8 N).2.2.1
def Xk (N : Nat) : Int → (List UInt8) → Int → Option (Q0 × Int × Int) := (Q8 N).2.2.2
theorem Q1j : ∀ N, (∀ {s_0 : List UInt8} {most : Int} {r : Q0 × Int × Int}, (Q8 N).1 s_0 most = some r → Xe Tryz.prog G1 46 [.str s_0, .int .i64 most] (.tuple [.agg (Q0.cells r.1), .int .i64 r.2.1, .int .i64 r.2.2])) ∧ (∀ {code : Int} {s_1 : List UInt8} {most : Int} {r : Q0 × Int × Int}, (Q8 N).2.1 code s_1 most = some r → Xe Tryz.prog G1 50 [.int .i64 code, .str s_1, .int .i64 most] (.tuple [.agg (Q0.cells r.1), .int .i64 r.2.1, .int .i64 r.2.2])) ∧ (∀ {c : Qh} {s_1 : List UInt8} {most : Int} {r : Q0 × Int × Int}, (Q8 N).2.2.1 c s_1 most = some r → Xe Tryz.prog G1 60 [.agg (Qh.cells c), .str s_1, .int .i64 most] (.tuple [.agg (Q0.cells r.1), .int .i64 r.2.1, .int .i64 r.2.2])) ∧ (∀ {code : Int} {s_1 : List UInt8} {most : Int} {r : Q0 × Int × Int}, (Q8 N).2.2.2 code s_1 most = some r → Xe Tryz.prog G1 74 [.int .i64 code, .str s_1, .int .i64 most] (.tuple [.agg (Q0.cells r.1), .int .i64 r.2.1, .int .i64 r.2.2])) := by
 intro N
 induction N with
 | zero => exact ⟨(fun h => by simp [Q8] at h), (fun h => by simp [Q8] at h), (fun h => by simp [Q8] at h), (fun h => by simp [Q8] at h)⟩
 | succ N ih => exact ⟨(fun h => Q1b (N := N) (fun h => ih.1 h) (fun h => ih.2.1 h) (fun h => ih.2.2.1 h) (fun h => ih.2.2.2 h) h), (fun h => Q0r (N := N) (fun h => ih.1 h) (fun h => ih.2.1 h) (fun h => ih.2.2.1 h) (fun h => ih.2.2.2 h) h), (fun h => Q0f (N := N) (fun h => ih.1 h) (fun h => ih.2.1 h) (fun h => ih.2.2.1 h) (fun h => ih.2.2.2 h) h), (fun h => Q14 (N := N) (fun h => ih.1 h) (fun h => ih.2.1 h) (fun h => ih.2.2.1 h) (fun h => ih.2.2.2 h) h)⟩
theorem Q17 {N : Nat} {s_0 : List UInt8} {most : Int} {r : Q0 × Int × Int} (h : Ze N s_0 most = some r) : Xe Tryz.prog G1 46 [.str s_0, .int .i64 most] (.tuple [.agg (Q0.cells r.1), .int .i64 r.2.1, .int .i64 r.2.2]) := (Q1j N).1 h
def Ys (N : Nat) (s_0 : List UInt8) (l : Qe) (v1 : Int × Int) (b5 : UInt8) (b7 : UInt8) (v10 : Int) : Nat → (List UInt8) → (List Q0) → Option (Q9 × Int × Int)
 | 0, _, _ => none
 | n + 1, body34, l35 =>
  cond (Q1q .neq body34 [])
  (cond (Q7 .eql (l35.length : Int) 1000)
  (some ((⟨0, 0, [], []⟩ : Q9), 0, 4))
  ((Ze N body34 l.MaxDepth).bind fun v38 =>
  cond (Q7 .eql v38.2.2 3)
  (some ((⟨0, 0, [], []⟩ : Q9), 0, 5))
  (cond (Q7 .neq v38.2.2 0)
  (some ((⟨0, 0, [], []⟩ : Q9), 0, v38.2.2))
  (cond (Nat.ble ((l35.length + 1 + 4096) * 56) 17592186044416) (cond (decide (0 ≤ v38.2.1)) (cond (Nat.ble v38.2.1.toNat body34.length && Nat.ble body34.length body34.length) (Ys N s_0 l v1 b5 b7 v10 n ((body34.take body34.length).drop v38.2.1.toNat) (l35 ++ [v38.1])) none) none) none))))
  (some ((⟨(IntKind.wrap .i64 (b7.toNat : Int)), (IntKind.wrap .i64 v10), ((s_0.take ((IntKind.wrap .i64 (4 * (IntKind.wrap .i64 (b5.toNat : Int)))).toNat)).drop 8), l35⟩ : Q9), v1.1, 0))
def Wj (N : Nat) (s_0 : List UInt8) (l : Qe) : Option (Q9 × Int × Int) :=
 (Wc N s_0 l).bind fun v1 =>
 cond (Q7 .neq v1.2 0)
 (some ((⟨0, 0, [], []⟩ : Q9), 0, v1.2))
 (cond (Q7 .lss (s_0.length : Int) v1.1)
 (some ((⟨0, 0, [], []⟩ : Q9), 0, 3))
 ((idx s_0 4).bind fun b5 =>
 (idx s_0 5).bind fun b7 =>
 cond (Nat.ble 6 8 && Nat.ble 8 s_0.length) ((Z8 N ((s_0.take 8).drop 6)).bind fun v10 =>
 cond (decide (0 ≤ (IntKind.wrap .i64 (4 * (IntKind.wrap .i64 (b5.toNat : Int)))))) (cond (Nat.ble 8 ((IntKind.wrap .i64 (4 * (IntKind.wrap .i64 (b5.toNat : Int)))).toNat) && Nat.ble ((IntKind.wrap .i64 (4 * (IntKind.wrap .i64 (b5.toNat : Int)))).toNat) s_0.length) (cond (decide (0 ≤ v1.1)) (cond (Nat.ble (IntKind.wrap .i64 (4 * (IntKind.wrap .i64 (b5.toNat : Int)))).toNat v1.1.toNat && Nat.ble v1.1.toNat s_0.length) (Ys N s_0 l v1 b5 b7 v10 N ((s_0.take v1.1.toNat).drop ((IntKind.wrap .i64 (4 * (IntKind.wrap .i64 (b5.toNat : Int)))).toNat)) []) none) none) none) none) none))
theorem Q0y {N} {s_0} {l} {r} (h : Wj N s_0 l = some r) : Xe Tryz.prog G1 32 [.str s_0, .agg (Qe.cells l)] (.tuple [.agg (Q9.cells r.1), .int .i64 r.2.1, .int .i64 r.2.2]) := by
 refine Qc k32 ?_
 unfold Wj at h
 rw [cX] at h
 refine cP h Q19 (.cons (.p _) (.cons q2 .nil)) fun v1 h => ?_
 apply iU h <;> intro h
 ·obtain rfl := Qa h; exact (Frz.tuple' (.cons q4n p2))
 ·apply iU h <;> intro h
  ·obtain rfl := Qa h; exact (Frz.tuple' (.cons q4n p2))
  ·refine xB h fun b5 h => ?_
   refine Qb ?_
   refine xB h fun b7 h => ?_
   refine kU h fun h => ?_
   refine cD h Yb p1 fun v10 h => ?_
   obtain ⟨hk12, h⟩ := Jx h
   refine Uw hk12 ?_
   refine kU h fun h => ?_
   refine Uw hk12 ?_
   refine kU h fun h => ?_
   refine kU h fun h => ?_
   refine lpC (τ := (List UInt8) × (List Q0)) (fun ⟨body34, _⟩ => (a2 (.any :: .ptr 0 0 :: .ptr 1 0 :: .any :: .any :: iI v1.1 :: .any :: .any :: .ptr 2 0 :: iS body34 :: a16 (a16 (a16 (a16 (a4 (.any :: [])))))) : List AV)) (fun ⟨_, l35⟩ => (.cells (iI l.MaxPacket :: iI l.MaxDepth :: []) :: .cells (iI 0 :: iI 0 :: iS [] :: .p .nilSlice :: []) :: .cells (iI (IntKind.wrap .i64 (b7.toNat : Int)) :: iI (IntKind.wrap .i64 v10) :: .p (.str ((s_0.take ((IntKind.wrap .i64 (4 * (IntKind.wrap .i64 (b5.toNat : Int)))).toNat)).drop 8)) :: .slice 4 3 0 l35.length :: []) :: .cells (Yf Q0.cells l35) :: [] : List AObj)) (fun n0 ⟨body34, l35⟩ => Ys N s_0 l v1 b5 b7 v10 n0 body34 l35) (((s_0.take v1.1.toNat).drop ((IntKind.wrap .i64 (4 * (IntKind.wrap .i64 (b5.toNat : Int)))).toNat)), []) h (fun i => i) ⟨(rW <| rA <| rE rfl <| rE rfl <| rW <| rE rfl <| rW <| rE rfl <| rE rfl <| rX <| rX <| rX <| rX <| rX <| rX <| rX <| rX <| rV <| rA <| rN), (hE rfl <| hE rfl <| hC rfl (rE rfl <| rE rfl <| rE rfl <| rS <| rN) <| hV lb <| hN), rfl, rfl, (roE rfl <| roE rfl <| roE rfl <| roE (Q2 _ _ _) <| roN)⟩ fun n0 ⟨body34, l35⟩ h => ?_
   simp only [Ys] at h
   rw [cX, cY] at h
   apply iU h <;> intro h
   ·apply iU h <;> intro h
    ·obtain rfl := Qa h; exact (Frz.tuple' (.cons q4n p2))
    ·refine cP h Q17 p2 fun v38 h => ?_
     apply iU h <;> intro h
     ·refine ifT (cF (by decide)) ?_
      obtain rfl := Qa h; exact (Frz.tuple' (.cons q4n p2))
     ·apply iU h <;> intro h
      ·obtain rfl := Qa h; exact (Frz.tuple' (.cons q4n p2))
      ·refine Qb ?_
       obtain ⟨hk42, h⟩ := Jx h
       refine Uw (Wu (c := Q0.cells) (e := 4) (fun _ => rfl) (by first | (simp; done) | (simp [Qv]; done)) hk42) ?_
       refine U1 (c := Q0.cells) [v38.1] rfl ?_
       refine kU h fun h => ?_
       refine kU h fun h => ?_
       show Exists _
       exact ⟨(n0, ((body34.take body34.length).drop v38.2.1.toNat), (l35 ++ [v38.1])), h, Nat.lt_succ_self _, (rho [0, 1, 2, 6]), ⟨(rW <| rA <| rE rfl <| rE rfl <| rW <| rE rfl <| rW <| rE rfl <| rE rfl <| rX <| rX <| rX <| rX <| rX <| rX <| rX <| rX <| rV <| rA <| rN), (hE rfl <| hE rfl <| hC rfl (rE rfl <| rE rfl <| rE rfl <| rL (by first | (simp; done) | (simp [Qv]; done)) rfl <| rN) <| hO rfl <| hN), rfl, rfl, (roE rfl <| roE rfl <| roE rfl <| roE (Q2 _ _ _) <| roN)⟩⟩
   ·obtain rfl := Qa h; exact (Frz.tuple' (.cons (Frz.agg' (.cons (.p _) (.cons (.p _) (.cons (.p _) (.cons (Q0.frz_own (l := l35) rfl trivial (by first | (simp; done) | (simp [Qv]; done))) .nil))))) p2))
def Zn (N : Nat) (x : Qk) : Nat → (List UInt8) → Int → (List Q9) → Option (((List Q9) × Int) × Qk)
 | 0, _, _, _ => none
 | n + 1, c19, c20, l21 =>
  (Wj N c19 x.L).bind fun v22 =>
  cond (Q7 .eql v22.2.2 3)
  (some ((l21, 0), (⟨x.L, c19, c20, x.E⟩ : Qk)))
  (cond (Q7 .neq v22.2.2 0)
  (some ((l21, v22.2.2), (⟨x.L, [], c20, v22.2.2⟩ : Qk)))
  (cond (Nat.ble ((l21.length + 1 + 4096) * 56) 17592186044416) (cond (decide (0 ≤ v22.2.1)) (cond (Nat.ble v22.2.1.toNat c19.length && Nat.ble c19.length c19.length) (Zn N x n ((c19.take c19.length).drop v22.2.1.toNat) (IntKind.wrap .i64 (c20 + v22.2.1)) (l21 ++ [v22.1])) none) none) none))
def Zj (N : Nat) (x : Qk) (chunk : List UInt8) : Option (((List Q9) × Int) × Qk) :=
 cond (Q7 .neq x.E 0)
 (some (([], x.E), x))
 (cond (Nat.ble (x.B.length + chunk.length) 4611686018427387904) (Zn N x N (x.B ++ chunk) x.N' []) none)
theorem Vg {N} {x} {chunk} {r} (h : Zj N x chunk = some r) : Qb4 Tryz.prog G1 17 (Qk.cells x) [.str chunk] (.tuple [.slice 4 (Qv Q9.cells r.1.1), .int .i64 r.1.2]) (Qk.cells r.2) := by
 refine Vd k17 ?_
 unfold Zj at h
 rw [cX] at h
 apply iU h <;> intro h
 ·refine Qb ?_
  obtain rfl := Qa h; exact ⟨_, _, rfl, p5, (Frz.tuple' (.cons (.nil _) p1))⟩
 ·refine kU h fun h => ?_
  refine lpC (τ := (List UInt8) × Int × (List Q9)) (fun ⟨_, _, l21⟩ => (.ptr 0 0 :: a4 (.any :: .slice 4 1 0 l21.length :: a16 (a16 (a16 (a16 (a4 (a2 ([]))))))) : List AV)) (fun ⟨c19, c20, l21⟩ => (.cells (iI x.L.MaxPacket :: iI x.L.MaxDepth :: iS c19 :: iI c20 :: iI x.E :: []) :: .cells (Yf Q9.cells l21) :: [] : List AObj)) (fun n0 ⟨c19, c20, l21⟩ => Zn N x n0 c19 c20 l21) ((x.B ++ chunk), x.N', []) h (fun i => i) ⟨(rE rfl <| rV <| rA <| rS <| rX <| rX <| rX <| rX <| rX <| rX <| rX <| rX <| rV <| rW <| rN), (hE rfl <| hV lb <| hN), rfl, rfl, (roE rfl <| roE (Q2 _ _ _) <| roN)⟩ fun n0 ⟨c19, c20, l21⟩ h => ?_
  simp only [Zn] at h
  rw [cX] at h
  refine Qb ?_
  refine cD h Q0y (.cons (.p _) (.cons q2 .nil)) fun v22 h => ?_
  apply iU h <;> intro h
  ·obtain rfl := Qa h; exact ⟨_, _, rfl, p5, (Frz.tuple' (.cons (frz_own (c := Q9.cells) (l := (l21 : List Q9)) (fun _ => rfl) rfl (by decide) (by first | (simp; done) | (simp [Qv]; done))) p1))⟩
  ·apply iU h <;> intro h
   ·obtain rfl := Qa h; exact ⟨_, _, rfl, p5, (Frz.tuple' (.cons (frz_own (c := Q9.cells) (l := (l21 : List Q9)) (fun _ => rfl) rfl (by decide) (by first | (simp; done) | (simp [Qv]; done))) p1))⟩
   ·refine Qb ?_
    obtain ⟨hk26, h⟩ := Jx h
    refine Uw (Wu (c := Q9.cells) (e := 4) (fun _ => rfl) (by first | (simp; done) | (simp [Qv]; done)) hk26) ?_
    refine U1 (c := Q9.cells) [v22.1] rfl ?_
    refine kU h fun h => ?_
    refine kU h fun h => ?_
    show Exists _
    exact ⟨(n0, ((c19.take c19.length).drop v22.2.1.toNat), (IntKind.wrap .i64 (c20 + v22.2.1)), (l21 ++ [v22.1])), h, Nat.lt_succ_self _, (rho [0, 4]), ⟨(rE rfl <| rV <| rA <| rL (by first | (simp; done) | (simp [Qv]; done)) rfl <| rX <| rX <| rX <| rX <| rX <| rX <| rX <| rX <| rV <| rW <| rN), (hE rfl <| hO rfl <| hN), rfl, rfl, (roE rfl <| roE (Q2 _ _ _) <| roN)⟩⟩
def Xh (_N : Nat) (x : Qk) : Option ((Int) × Qk) :=
 some ((x.B.length : Int), x)
theorem Ju {N} {x} {r} (h : Xh N x = some r) : Qb4 Tryz.prog G1 19 (Qk.cells x) [] (.int .i64 r.1) (Qk.cells r.2) := by
 refine Vd k19 ?_
 unfold Xh at h
 obtain rfl := Qa h; exact ⟨_, _, rfl, p5, (.p _)⟩
def Xs (N : Nat) (l : Qe) (s_1 : List UInt8) : Option ((List Q9) × Int × Int) :=
 (X2 N [] l).bind fun v1 =>
 cond (Q7 .eql v1.2 2)
 (cond (Q7 .neq v1.2 0)
 (some ([], 0, v1.2))
 (some ([], 0, 1)))
 ((Qx N (⟨l, [], 0, 0, 0, 0, 27, []⟩ : Q5) s_1).bind fun v5 =>
 (W2 N v5.2).bind fun v7 =>
 some (v5.1.1, v7.1, v5.1.2))
theorem Uh {N} {l} {s_1} {r} (h : Xs N l s_1 = some r) : Xe Tryz.prog G1 20 [.agg (Qe.cells l), .str s_1] (.tuple [.slice 4 (Qv Q9.cells r.1), .int .i64 r.2.1, .int .i64 r.2.2]) := by
 refine Qc k20 ?_
 unfold Xs at h
 rw [cX] at h
 refine W5 k10 ?_
 refine cP h V7 (.cons (.p _) (.cons q2 .nil)) fun v1 h => ?_
 apply iU h <;> intro h
 ·apply iU h <;> intro h
  ·obtain rfl := Qa h; exact (Frz.tuple' (.cons (.nil _) p2))
  ·refine W5 k12 ?_
   refine W5 k15 ?_
   obtain rfl := Qa h; exact (Frz.tuple' (.cons (.nil _) p2))
 ·refine ifF (cF (by decide)) ?_
  refine cG h Xp fun v5 h => ?_
  refine ⟨rho [2, 4, 5], (.cells (iI l.MaxPacket :: iI l.MaxDepth :: []) :: .cells (iI l.MaxPacket :: iI l.MaxDepth :: []) :: .cells (iI v5.2.l.MaxPacket :: iI v5.2.l.MaxDepth :: .slice 1 3 0 v5.2.kept.length :: iI v5.2.from' :: iI v5.2.at' :: iI v5.2.need :: iI v5.2.e :: .func (.func v5.2.next) [.ptr 2 0] [] :: .slice 4 4 0 v5.2.out.length :: []) :: .cells (Yf (cI .u8) v5.2.kept) :: .cells (Yf Q9.cells v5.2.out) :: []), .p (.tuple [.slice 4 (Qv Q9.cells v5.1.1), .int .i64 v5.1.2]), ⟨(rE rfl <| rE rfl <| rN), (hC rfl (rE rfl <| rE rfl <| rS <| rE rfl <| rE rfl <| rE rfl <| rE rfl <| rE rfl <| rS <| rN) <| hV lb <| hV lb <| hN), rfl, rfl, (roE rfl <| roE (Q2 _ _ _) <| roE (Q2 _ _ _) <| roN), rfl, (fK rfl rfl <| fK rfl rfl <| fR 0 rfl rfl rfl rfl <| fO 3 rfl rfl rfl <| fO 4 rfl rfl rfl <| fN), rfl⟩, ?_⟩
  refine cG h Q0c fun v7 h => ?_
  refine ⟨rho [2, 3, 4], (.cells (iI l.MaxPacket :: iI l.MaxDepth :: []) :: .cells (iI l.MaxPacket :: iI l.MaxDepth :: []) :: .cells (iI v7.2.l.MaxPacket :: iI v7.2.l.MaxDepth :: .slice 1 5 0 v7.2.kept.length :: iI v7.2.from' :: iI v7.2.at' :: iI v7.2.need :: iI v7.2.e :: .func (.func v7.2.next) [.ptr 2 0] [] :: .slice 4 6 0 v7.2.out.length :: []) :: .dead :: .dead :: .cells (Yf (cI .u8) v7.2.kept) :: .cells (Yf Q9.cells v7.2.out) :: []), iI v7.1, ⟨(rE rfl <| rN), (hE rfl <| hO rfl <| hO rfl <| hN), rfl, rfl, (roE rfl <| roE (Q2 _ _ _) <| roE (Q2 _ _ _) <| roN), rfl, (fK rfl rfl <| fK rfl rfl <| fR 0 rfl rfl rfl rfl <| fD <| fD <| fO 3 rfl rfl rfl <| fO 4 rfl rfl rfl <| fN), rfl⟩, ?_⟩
  obtain rfl := Qa h; exact u3
def Yp (N : Nat) (l : Qe) (s_1 : List UInt8) : Option ((List Q9) × Int × Int) :=
 (Ym N l).bind fun v1 =>
 cond (!v1)
 (some ([], 0, 2))
 ((Zj N (⟨l, [], 0, 0⟩ : Qk) s_1).bind fun v4 =>
 some (v4.1.1, v4.2.N', v4.1.2))
theorem Va {N} {l} {s_1} {r} (h : Yp N l s_1 = some r) : Xe Tryz.prog G1 21 [.agg (Qe.cells l), .str s_1] (.tuple [.slice 4 (Qv Q9.cells r.1), .int .i64 r.2.1, .int .i64 r.2.2]) := by
 refine Qc k21 ?_
 unfold Yp at h
 refine W5 k16 ?_
 refine cP h W6 (.cons q2 .nil) fun v1 h => ?_
 apply iU h <;> intro h
 ·refine ifT (cF (by decide)) ?_
  obtain rfl := Qa h; exact (Frz.tuple' (.cons (.nil _) p2))
 ·refine ifF (cF (by decide)) ?_
  refine cM h Vg rfl p1 fun v4 h => ?_
  refine Qb ?_
  obtain rfl := Qa h; exact u3
def Ya (N : Nat) (l : Qe) (chunks : List (List UInt8)) : Nat → Option (Bool)
 | 0 => none
 | n + 1 =>
  cond (Q7 .lss 0 ((Qv cS chunks).length : Int))
  ((Xs N l []).bind fun v31 =>
  (Yp N l []).bind fun v33 =>
  (Zo N v31.1 v33.1).bind fun v35 =>
  cond v35
  (cond (Q7 .eql v31.2.1 v33.2.1)
  (some (Q7 .eql v31.2.2 v33.2.2))
  (some false))
  (some false))
  ((Xs N l []).bind fun v39 =>
  (Yp N l []).bind fun v41 =>
  (Zo N v39.1 v41.1).bind fun v43 =>
  cond v43
  (cond (Q7 .eql v39.2.1 v41.2.1)
  (some (Q7 .eql v39.2.2 v41.2.2))
  (some false))
  (some false))
def Z6 (N : Nat) (l : Qe) (chunks : List (List UInt8)) : Nat → (List UInt8) → Int → Int → Int → Int → Int → Int → Int → Nat → Int → Int → (List UInt8) → Int → Int → (List Int) → (List Q9) → Option (Bool)
 | 0, _, _, _, _, _, _, _, _, _, _, _, _, _, _, _, _ => none
 | n + 1, all113, i114, Qla, Qlo, Qku, Qmb, Qmg, Qmt, q121, Ql2, Qly, Qkc, Qkn, Qlr, l127, l128 =>
  cond (Q7 .lss i114 ((Qv cS chunks).length : Int))
  ((idx chunks i114).bind fun y130 =>
  (Qx N (⟨(⟨Qla, Qlo⟩ : Qe), l127, Qku, Qmb, Qmg, Qmt, q121, l128⟩ : Q5) y130).bind fun v132 =>
  (idx chunks i114).bind fun y134 =>
  (Zj N (⟨(⟨Ql2, Qly⟩ : Qe), Qkc, Qkn, Qlr⟩ : Qk) y134).bind fun v136 =>
  (idx chunks i114).bind fun y138 =>
  cond (Nat.ble (all113.length + y138.length) 4611686018427387904) ((Zo N v132.1.1 v136.1.1).bind fun v141 =>
  cond (!v141)
  (some false)
  (cond (Q7 .neq v132.1.2 v136.1.2)
  (some false)
  (cond (Q7 .neq v132.2.e v136.2.E)
  (some false)
  (cond (Q7 .neq v132.2.at' v136.2.N')
  (some false)
  (cond (decide (0 ≤ v132.2.from')) (cond (Nat.ble v132.2.from'.toNat v132.2.kept.length && Nat.ble v132.2.kept.length v132.2.kept.length) ((Xh N v136.2).bind fun v149 =>
  cond (Q7 .neq (((v132.2.kept.length - v132.2.from'.toNat) : Nat) : Int) v149.1)
  (some false)
  (Z6 N l chunks n (all113 ++ y138) (IntKind.wrap .i64 (i114 + 1)) v132.2.l.MaxPacket v132.2.l.MaxDepth v132.2.from' v132.2.at' v132.2.need v132.2.e v132.2.next v149.2.L.MaxPacket v149.2.L.MaxDepth v149.2.B v149.2.N' v149.2.E v132.2.kept v132.2.out)) none) none))))) none)
  ((Xs N l all113).bind fun v152 =>
  (Yp N l all113).bind fun v154 =>
  (Zo N v152.1 v154.1).bind fun v156 =>
  cond v156
  (cond (Q7 .eql v152.2.1 v154.2.1)
  (some (Q7 .eql v152.2.2 v154.2.2))
  (some false))
  (some false))
def Z5 (N : Nat) (l : Qe) (chunks : List (List UInt8)) : Nat → Int → Int → Option (Bool)
 | 0, _, _ => none
 | n + 1, n15, i16 =>
  cond (Q7 .lss i16 ((Qv cS chunks).length : Int))
  ((idx chunks i16).bind fun y18 =>
  cond (Q7 .gtr (IntKind.wrap .i64 (n15 + (ifB (decide (301 < (y18.length : Int))) 301 (y18.length : Int)))) 300)
  (some true)
  (cond (Q7 .geq i16 20)
  (some true)
  (Z5 N l chunks n (IntKind.wrap .i64 (n15 + (ifB (decide (301 < (y18.length : Int))) 301 (y18.length : Int)))) (IntKind.wrap .i64 (i16 + 1)))))
  ((X2 N [] l).bind fun v22 =>
  cond (Q7 .eql v22.2 2)
  ((Ym N l).bind fun v25 =>
  cond (!v25)
  (cond (Q7 .neq v22.2 2)
  (some false)
  (Ya N l chunks N))
  (cond (Q7 .neq v22.2 0)
  (some false)
  (some false)))
  ((Ym N l).bind fun v48 =>
  cond (!v48)
  (some false)
  (Z6 N l chunks N [] 0 l.MaxPacket l.MaxDepth 0 0 0 0 27 l.MaxPacket l.MaxDepth [] 0 0 [] [])))
def Y1 (N : Nat) (l : Qe) (chunks : List (List UInt8)) : Option (Bool) :=
 (Xz N).bind fun v1 =>
 cond (!v1)
 (some false)
 (Z5 N l chunks N 0 0)
theorem Uz {N} {l} {chunks} {r} (h : Y1 N l chunks = some r) : Xe Tryz.prog G1 4 [.agg (Qe.cells l), .slice 1 (Qv cS chunks)] (.bool r) := by
 refine Qc k4 ?_
 unfold Y1 at h
 refine cP h Q07 p0 fun v1 h => ?_
 apply iU h <;> intro h
 ·cases h; exact (.p _)
 ·refine lpC (τ := Int × Int) (fun ⟨n15, i16⟩ => (.any :: .p (.slice 1 (Qv cS chunks)) :: .ptr 0 0 :: .any :: .any :: iI n15 :: iI i16 :: a16 (a16 (a16 (a16 (a16 (a16 (a16 (a16 (a16 (a8 (.any :: [])))))))))) : List AV)) (fun ⟨_, _⟩ => (.cells (iI l.MaxPacket :: iI l.MaxDepth :: []) :: [] : List AObj)) (fun n0 ⟨n15, i16⟩ => Z5 N l chunks n0 n15 i16) (0, 0) h (fun i => i) ⟨(rA <| rE rfl <| rE rfl <| rW <| rE rfl <| rE rfl <| rX <| rX <| rX <| rX <| rX <| rX <| rX <| rX <| rX <| rX <| rX <| rX <| rX <| rX <| rX <| rX <| rX <| rX <| rX <| rA <| rN), (hE rfl <| hN), rfl, rfl, (roE rfl <| roN)⟩ fun n0 ⟨n15, i16⟩ h => ?_
  simp only [Z5] at h
  rw [cX] at h
  apply iU h <;> intro h
  ·refine xR h fun y18 h => ?_
   apply iU h <;> intro h
   ·cases h; exact (.p _)
   ·apply iU h <;> intro h
    ·cases h; exact (.p _)
    ·show Exists _
     exact ⟨(n0, (IntKind.wrap .i64 (n15 + (ifB (decide (301 < (y18.length : Int))) 301 (y18.length : Int)))), (IntKind.wrap .i64 (i16 + 1))), h, Nat.lt_succ_self _, (fun i => i), ⟨(rA <| rE rfl <| rE rfl <| rW <| rE rfl <| rE rfl <| rX <| rX <| rX <| rX <| rX <| rX <| rX <| rX <| rX <| rX <| rX <| rX <| rX <| rX <| rX <| rX <| rX <| rX <| rX <| rA <| rN), (hE rfl <| hN), rfl, rfl, (roE rfl <| roN)⟩⟩
  ·refine W5 k10 ?_
   refine cP h V7 (.cons (.p _) (.cons q2 .nil)) fun v22 h => ?_
   apply iU h <;> intro h
   ·refine W5 k16 ?_
    refine cP h W6 (.cons q2 .nil) fun v25 h => ?_
    apply iU h <;> intro h
    ·apply iU h <;> intro h
     ·cases h; exact (.p _)
     ·refine lpC (τ := Unit) (fun _ => (.any :: .p (.slice 1 (Qv cS chunks)) :: .ptr 0 0 :: a4 (.p .nilPtr :: .any :: .p .nilPtr :: .any :: iS [] :: iI 0 :: a16 (a16 (a16 (a16 (a16 (a16 (a16 (a16 (a16 (a2 (.any :: []))))))))))) : List AV)) (fun _ => (.cells (iI l.MaxPacket :: iI l.MaxDepth :: []) :: .cells (iI l.MaxPacket :: iI l.MaxDepth :: []) :: .cells (iI l.MaxPacket :: iI l.MaxDepth :: []) :: [] : List AObj)) (fun n1 ⟨⟩ => Ya N l chunks n1) () h (fun i => i) ⟨(rA <| rE rfl <| rE rfl <| rV <| rE rfl <| rA <| rE rfl <| rA <| rE rfl <| rE rfl <| rX <| rX <| rX <| rX <| rX <| rX <| rX <| rX <| rX <| rX <| rX <| rX <| rX <| rX <| rX <| rX <| rX <| rX <| rW <| rA <| rN), (hE rfl <| hE rfl <| hE rfl <| hN), rfl, rfl, (roE rfl <| roE rfl <| roE rfl <| roN)⟩ fun n1 ⟨⟩ h => ?_
      simp only [Ya] at h
      rw [cX] at h
      apply iU h <;> intro h
      ·refine cP h Uh (.cons q2 p1) fun v31 h => ?_
       refine cP h Va (.cons q2 p1) fun v33 h => ?_
       refine cP h Xi p2 fun v35 h => ?_
       apply iU h <;> intro h
       ·apply iU h <;> intro h
        ·cases h; exact (.p _)
        ·cases h; exact (.p _)
       ·cases h; exact (.p _)
      ·refine cP h Uh (.cons q2 p1) fun v39 h => ?_
       refine cP h Va (.cons q2 p1) fun v41 h => ?_
       refine cP h Xi p2 fun v43 h => ?_
       apply iU h <;> intro h
       ·apply iU h <;> intro h
        ·cases h; exact (.p _)
        ·cases h; exact (.p _)
       ·cases h; exact (.p _)
    ·apply iU h <;> intro h
     ·cases h; exact (.p _)
     ·cases h; exact (.p _)
   ·refine W5 k16 ?_
    refine cP h W6 (.cons q2 .nil) fun v48 h => ?_
    apply iU h <;> intro h
    ·refine ifT (cF (by decide)) ?_
     cases h; exact (.p _)
    ·refine ifF (cF (by decide)) ?_
     refine lpC (τ := (List UInt8) × Int × Int × Int × Int × Int × Int × Int × Nat × Int × Int × (List UInt8) × Int × Int × (List Int) × (List Q9)) (fun ⟨all113, i114, _, _, _, _, _, _, _, _, _, _, _, _, _, _⟩ => (.any :: .p (.slice 1 (Qv cS chunks)) :: .ptr 0 0 :: a4 (.ptr 2 0 :: .any :: .ptr 4 0 :: .any :: iS all113 :: iI i114 :: a16 (a16 (a16 (a16 (a16 (a16 (a16 (a16 (a16 (a2 (.any :: []))))))))))) : List AV)) (fun ⟨_, _, Qla, Qlo, Qku, Qmb, Qmg, Qmt, q121, Ql2, Qly, Qkc, Qkn, Qlr, l127, l128⟩ => (.cells (iI l.MaxPacket :: iI l.MaxDepth :: []) :: .cells (iI l.MaxPacket :: iI l.MaxDepth :: []) :: .cells (iI Qla :: iI Qlo :: .slice 1 5 0 l127.length :: iI Qku :: iI Qmb :: iI Qmg :: iI Qmt :: .func (.func q121) [.ptr 2 0] [] :: .slice 4 6 0 l128.length :: []) :: .cells (iI l.MaxPacket :: iI l.MaxDepth :: []) :: .cells (iI Ql2 :: iI Qly :: iS Qkc :: iI Qkn :: iI Qlr :: []) :: .cells (Yf (cI .u8) l127) :: .cells (Yf Q9.cells l128) :: [] : List AObj)) (fun n2 ⟨all113, i114, Qla, Qlo, Qku, Qmb, Qmg, Qmt, q121, Ql2, Qly, Qkc, Qkn, Qlr, l127, l128⟩ => Z6 N l chunks n2 all113 i114 Qla Qlo Qku Qmb Qmg Qmt q121 Ql2 Qly Qkc Qkn Qlr l127 l128) ([], 0, l.MaxPacket, l.MaxDepth, 0, 0, 0, 0, 27, l.MaxPacket, l.MaxDepth, [], 0, 0, [], []) h (fun i => i) ⟨(rA <| rE rfl <| rE rfl <| rV <| rE rfl <| rA <| rE rfl <| rA <| rE rfl <| rE rfl <| rX <| rX <| rX <| rX <| rX <| rX <| rX <| rX <| rX <| rX <| rX <| rX <| rX <| rX <| rX <| rX <| rX <| rX <| rW <| rA <| rN), (hE rfl <| hE rfl <| hC rfl (rE rfl <| rE rfl <| rS <| rE rfl <| rE rfl <| rE rfl <| rE rfl <| rE rfl <| rS <| rN) <| hE rfl <| hE rfl <| hV lb <| hV lb <| hN), rfl, rfl, (roE rfl <| roE rfl <| roE rfl <| roE rfl <| roE rfl <| roE (Q2 _ _ _) <| roE (Q2 _ _ _) <| roN)⟩ fun n2 ⟨all113, i114, Qla, Qlo, Qku, Qmb, Qmg, Qmt, q121, Ql2, Qly, Qkc, Qkn, Qlr, l127, l128⟩ h => ?_
     simp only [Z6] at h
     rw [cX] at h
     apply iU h <;> intro h
     ·refine xR h fun y130 h => ?_
      refine cG h Xp fun v132 h => ?_
      refine ⟨rho [2, 5, 6], (.cells (iI l.MaxPacket :: iI l.MaxDepth :: []) :: .cells (iI l.MaxPacket :: iI l.MaxDepth :: []) :: .cells (iI v132.2.l.MaxPacket :: iI v132.2.l.MaxDepth :: .slice 1 7 0 v132.2.kept.length :: iI v132.2.from' :: iI v132.2.at' :: iI v132.2.need :: iI v132.2.e :: .func (.func v132.2.next) [.ptr 2 0] [] :: .slice 4 8 0 v132.2.out.length :: []) :: .cells (iI l.MaxPacket :: iI l.MaxDepth :: []) :: .cells (iI Ql2 :: iI Qly :: iS Qkc :: iI Qkn :: iI Qlr :: []) :: .dead :: .dead :: .cells (Yf (cI .u8) v132.2.kept) :: .cells (Yf Q9.cells v132.2.out) :: []), .p (.tuple [.slice 4 (Qv Q9.cells v132.1.1), .int .i64 v132.1.2]), ⟨(rE rfl <| rE rfl <| rN), (hE rfl <| hO rfl <| hO rfl <| hN), rfl, rfl, (roE rfl <| roE (Q2 _ _ _) <| roE (Q2 _ _ _) <| roN), rfl, (fK rfl rfl <| fK rfl rfl <| fR 0 rfl rfl rfl rfl <| fK rfl rfl <| fK rfl rfl <| fD <| fD <| fO 3 rfl rfl rfl <| fO 4 rfl rfl rfl <| fN), rfl⟩, ?_⟩
      refine xR h fun y134 h => ?_
      refine cM h Vg rfl p1 fun v136 h => ?_
      refine xR h fun y138 h => ?_
      refine kU h fun h => ?_
      refine Qb ?_
      refine cD h Xi p2 fun v141 h => ?_
      apply iU h <;> intro h
      ·cases h; exact (.p _)
      ·apply iU h <;> intro h
       ·cases h; exact (.p _)
       ·refine U5 [2] (r := iI v132.2.e) rfl rfl (fun a ha o ho => ?_) (W5 k18 ?_) ?_
        ·simp only [List.mem_cons, List.mem_nil_iff, or_false] at ha; subst ha; cases ho; rfl
        ·exact ⟨rfl, [], (List.append_nil _).symm⟩
        apply iU h <;> intro h
        ·cases h; exact (.p _)
        ·refine U5 [2] (r := iI v132.2.at') rfl rfl (fun a ha o ho => ?_) (W5 k15 ?_) ?_
         ·simp only [List.mem_cons, List.mem_nil_iff, or_false] at ha; subst ha; cases ho; rfl
         ·exact ⟨rfl, [], (List.append_nil _).symm⟩
         apply iU h <;> intro h
         ·cases h; exact (.p _)
         ·obtain ⟨hk147, h⟩ := Jx h
          obtain ⟨hk148, h⟩ := Jx h
          refine U5 [2] (r := .p (.int .i64 (((v132.2.kept.length - v132.2.from'.toNat) : Nat) : Int))) rfl rfl (fun a ha o ho => ?_) (W5 k14 ?_) ?_
          ·simp only [List.mem_cons, List.mem_nil_iff, or_false] at ha; subst ha; cases ho; rfl
          ·refine W5 k29 ?_
           refine Qb ?_
           refine Uw hk147 ?_
           refine Uw hk148 ?_
           exact ⟨rfl, [], (List.append_nil _).symm⟩
          refine dM h Ju rfl p0 fun v149 h => ?_
          apply iU h <;> intro h
          ·cases h; exact (.p _)
          ·show Exists _
           exact ⟨(n2, (all113 ++ y138), (IntKind.wrap .i64 (i114 + 1)), v132.2.l.MaxPacket, v132.2.l.MaxDepth, v132.2.from', v132.2.at', v132.2.need, v132.2.e, v132.2.next, v149.2.L.MaxPacket, v149.2.L.MaxDepth, v149.2.B, v149.2.N', v149.2.E, v132.2.kept, v132.2.out), h, Nat.lt_succ_self _, (rho [0, 1, 2, 3, 4, 7, 8]), ⟨(rA <| rE rfl <| rE rfl <| rV <| rE rfl <| rA <| rE rfl <| rA <| rE rfl <| rE rfl <| rX <| rX <| rX <| rX <| rX <| rX <| rX <| rX <| rX <| rX <| rX <| rX <| rX <| rX <| rX <| rX <| rX <| rX <| rW <| rA <| rN), (hE rfl <| hE rfl <| hE rfl <| hE rfl <| hE rfl <| hO rfl <| hO rfl <| hN), rfl, rfl, (roE rfl <| roE rfl <| roE rfl <| roE rfl <| roE rfl <| roE (Q2 _ _ _) <| roE (Q2 _ _ _) <| roN)⟩⟩
     ·refine cP h Uh (.cons q2 p1) fun v152 h => ?_
      refine cP h Va (.cons q2 p1) fun v154 h => ?_
      refine cP h Xi p2 fun v156 h => ?_
      apply iU h <;> intro h
      ·apply iU h <;> intro h
       ·cases h; exact (.p _)
       ·cases h; exact (.p _)
      ·cases h; exact (.p _)
end
end
end Go.Av
