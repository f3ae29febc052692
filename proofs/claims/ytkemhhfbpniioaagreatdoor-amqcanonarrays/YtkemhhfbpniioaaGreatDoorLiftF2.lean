/- The law. Part of a proof of a given statement: for every input the law returns true and the arguments read as before; no condition beyond the given row. -/
import Derived.Test.YtkemhhfbpniioaaGreatDoorLiftF1
namespace Go.Av
noncomputable section
open Go.Proofs
set_option maxRecDepth 100000
set_option maxHeartbeats 4000000
attribute [local irreducible] U6 Xv Q7q Q9j Q8 Q3o Qin
section
def Wu (rz1 : (List UInt8) → Int → Option (Q0 × Int × Int)) (rv : Int → (List UInt8) → Int → Option (Q0 × Int × Int)) (rx1 : Qh → (List UInt8) → Int → Option (Q0 × Int × Int)) (ry1 : Int → (List UInt8) → Int → Option (Q0 × Int × Int)) (_N : Nat) (s_0 : List UInt8) (most : Int) : Option (Q0 × Int × Int) :=
 cond (Q8 .lss most 0)
 (some ((⟨0, 0, [], []⟩ : Q0), 0, 2))
 (cond (Q8 .gtr most 32)
 (some ((⟨0, 0, [], []⟩ : Q0), 0, 2))
 (cond (Q3o .eql s_0 [])
 (some ((⟨0, 0, [], []⟩ : Q0), 0, 3))
 ((idx s_0 0).bind fun b4 =>
 cond (Nat.ble 1 s_0.length && Nat.ble s_0.length s_0.length) ((rv (IntKind.wrap .i64 (b4.toNat : Int)) ((s_0.take s_0.length).drop 1) most).bind fun v7 =>
 cond (Q8 .neq v7.2.2 0)
 (some ((⟨0, 0, [], []⟩ : Q0), 0, v7.2.2))
 (some (v7.1, (IntKind.wrap .i64 (v7.2.1 + 1)), 0))) none)))
theorem Q19 {rz1 : (List UInt8) → Int → Option (Q0 × Int × Int)} {rv : Int → (List UInt8) → Int → Option (Q0 × Int × Int)} {rx1 : Qh → (List UInt8) → Int → Option (Q0 × Int × Int)} {ry1 : Int → (List UInt8) → Int → Option (Q0 × Int × Int)} (hx2 : ∀ {s_0} {most} {r}, rz1 s_0 most = some r → Zp Tryz.prog G1 18 [.str s_0, .int .i64 most] (.tuple [.agg (Q0.cells r.1), .int .i64 r.2.1, .int .i64 r.2.2])) (hy2 : ∀ {code} {s_1} {most} {r}, rv code s_1 most = some r → Zp Tryz.prog G1 65 [.int .i64 code, .str s_1, .int .i64 most] (.tuple [.agg (Q0.cells r.1), .int .i64 r.2.1, .int .i64 r.2.2])) (hy3 : ∀ {c} {s_1} {most} {r}, rx1 c s_1 most = some r → Zp Tryz.prog G1 98 [.agg (Qh.cells c), .str s_1, .int .i64 most] (.tuple [.agg (Q0.cells r.1), .int .i64 r.2.1, .int .i64 r.2.2])) (hv2 : ∀ {code} {s_1} {most} {r}, ry1 code s_1 most = some r → Zp Tryz.prog G1 120 [.int .i64 code, .str s_1, .int .i64 most] (.tuple [.agg (Q0.cells r.1), .int .i64 r.2.1, .int .i64 r.2.2])) {N} {s_0} {most} {r} (h : Wu rz1 rv rx1 ry1 N s_0 most = some r) : Zp Tryz.prog G1 18 [.str s_0, .int .i64 most] (.tuple [.agg (Q0.cells r.1), .int .i64 r.2.1, .int .i64 r.2.2]) := by
 refine Q4 k18 ?_
 unfold Wu at h
 apply iU h <;> intro h
 ·obtain rfl := Ql h; exact (Frz.tuple' (.cons q4n p2))
 ·apply iU h <;> intro h
  ·obtain rfl := Ql h; exact (Frz.tuple' (.cons q4n p2))
  ·apply iU h <;> intro h
   ·obtain rfl := Ql h; exact (Frz.tuple' (.cons q4n p2))
   ·refine Qw ?_
    refine xB h fun b4 h => ?_
    refine kU h fun h => ?_
    refine cD h hy2 p3 fun v7 h => ?_
    apply iU h <;> intro h
    ·obtain rfl := Ql h; exact (Frz.tuple' (.cons q4n p2))
    ·obtain rfl := Ql h; exact (Frz.tuple' (.cons q4 p2))
def Ys (rz1 : (List UInt8) → Int → Option (Q0 × Int × Int)) (rv : Int → (List UInt8) → Int → Option (Q0 × Int × Int)) (rx1 : Qh → (List UInt8) → Int → Option (Q0 × Int × Int)) (ry1 : Int → (List UInt8) → Int → Option (Q0 × Int × Int)) (N : Nat) (code : Int) (s_1 : List UInt8) (most : Int) : Option (Q0 × Int × Int) :=
 cond (Q8 .lss most 0)
 (some ((⟨0, 0, [], []⟩ : Q0), 0, 2))
 (cond (Q8 .gtr most 32)
 (some ((⟨0, 0, [], []⟩ : Q0), 0, 2))
 ((Zo N code).bind fun v3 =>
 cond (!v3.2)
 (some ((⟨0, 0, [], []⟩ : Q0), 0, 8))
 (cond (!v3.1.Items)
 ((V7 N code s_1).bind fun v7 =>
 some (v7.1, v7.2.1, v7.2.2))
 (cond (Q8 .eql most 0)
 (some ((⟨0, 0, [], []⟩ : Q0), 0, 14))
 (cond v3.1.Sized
 ((rx1 v3.1 s_1 most).bind fun v11 =>
 some (v11.1, v11.2.1, v11.2.2))
 (cond (Q8 .eql v3.1.Kind 22)
 (some ((⟨22, 0, [], []⟩ : Q0), 0, 0))
 ((rz1 s_1 (IntKind.wrap .i64 (most - 1))).bind fun v14 =>
 cond (Q8 .neq v14.2.2 0)
 (some ((⟨0, 0, [], []⟩ : Q0), 0, v14.2.2))
 (cond (decide (0 ≤ v14.2.1)) (cond (Nat.ble v14.2.1.toNat s_1.length && Nat.ble s_1.length s_1.length) ((rz1 ((s_1.take s_1.length).drop v14.2.1.toNat) (IntKind.wrap .i64 (most - 1))).bind fun v19 =>
 cond (Q8 .neq v19.2.2 0)
 (some ((⟨0, 0, [], []⟩ : Q0), 0, v19.2.2))
 (some ((⟨25, 0, [], [v14.1, v19.1]⟩ : Q0), (IntKind.wrap .i64 (v14.2.1 + v19.2.1)), 0))) none) none))))))))
theorem Q1l {rz1 : (List UInt8) → Int → Option (Q0 × Int × Int)} {rv : Int → (List UInt8) → Int → Option (Q0 × Int × Int)} {rx1 : Qh → (List UInt8) → Int → Option (Q0 × Int × Int)} {ry1 : Int → (List UInt8) → Int → Option (Q0 × Int × Int)} (hx2 : ∀ {s_0} {most} {r}, rz1 s_0 most = some r → Zp Tryz.prog G1 18 [.str s_0, .int .i64 most] (.tuple [.agg (Q0.cells r.1), .int .i64 r.2.1, .int .i64 r.2.2])) (hy2 : ∀ {code} {s_1} {most} {r}, rv code s_1 most = some r → Zp Tryz.prog G1 65 [.int .i64 code, .str s_1, .int .i64 most] (.tuple [.agg (Q0.cells r.1), .int .i64 r.2.1, .int .i64 r.2.2])) (hy3 : ∀ {c} {s_1} {most} {r}, rx1 c s_1 most = some r → Zp Tryz.prog G1 98 [.agg (Qh.cells c), .str s_1, .int .i64 most] (.tuple [.agg (Q0.cells r.1), .int .i64 r.2.1, .int .i64 r.2.2])) (hv2 : ∀ {code} {s_1} {most} {r}, ry1 code s_1 most = some r → Zp Tryz.prog G1 120 [.int .i64 code, .str s_1, .int .i64 most] (.tuple [.agg (Q0.cells r.1), .int .i64 r.2.1, .int .i64 r.2.2])) {N} {code} {s_1} {most} {r} (h : Ys rz1 rv rx1 ry1 N code s_1 most = some r) : Zp Tryz.prog G1 65 [.int .i64 code, .str s_1, .int .i64 most] (.tuple [.agg (Q0.cells r.1), .int .i64 r.2.1, .int .i64 r.2.2]) := by
 refine Q4 k65 ?_
 unfold Ys at h
 apply iU h <;> intro h
 ·obtain rfl := Ql h; exact (Frz.tuple' (.cons q4n p2))
 ·apply iU h <;> intro h
  ·obtain rfl := Ql h; exact (Frz.tuple' (.cons q4n p2))
  ·refine cP h Xc p1 fun v3 h => ?_
   apply iU h <;> intro h
   ·obtain rfl := Ql h; exact (Frz.tuple' (.cons q4n p2))
   ·apply iU h <;> intro h
    ·refine cP h Q2b p2 fun v7 h => ?_
     obtain rfl := Ql h; exact (Frz.tuple' (.cons q4 p2))
    ·apply iU h <;> intro h
     ·obtain rfl := Ql h; exact (Frz.tuple' (.cons q4n p2))
     ·apply iU h <;> intro h
      ·refine cP h hy3 (.cons (Frz.agg' p5) p2) fun v11 h => ?_
       obtain rfl := Ql h; exact (Frz.tuple' (.cons q4 p2))
      ·apply iU h <;> intro h
       ·obtain rfl := Ql h; exact (Frz.tuple' (.cons q4n p2))
       ·refine cP h hx2 p2 fun v14 h => ?_
        apply iU h <;> intro h
        ·obtain rfl := Ql h; exact (Frz.tuple' (.cons q4n p2))
        ·refine kU h fun h => ?_
         refine kU h fun h => ?_
         refine cP h hx2 p2 fun v19 h => ?_
         apply iU h <;> intro h
         ·obtain rfl := Ql h; exact (Frz.tuple' (.cons q4n p2))
         ·obtain rfl := Ql h; exact (Frz.tuple' (.cons (Frz.agg' (.cons (.p _) (.cons (.p _) (.cons (.p _) (.cons (Q0.frz_own (l := [v14.1, v19.1]) rfl trivial (by simp)) .nil))))) p2))
def Wj (ry1 : Int → (List UInt8) → Int → Option (Q0 × Int × Int)) (N : Nat) (c : Qh) (most : Int) (v4 : Int) (v11 : Int) (b19 : UInt8) (v21 : Qh × Bool) : Nat → (List UInt8) → Int → (List Q0) → Option (Q0 × Int × Int)
 | 0, _, _, _ => none
 | n + 1, body44, i45, l46 =>
  cond (Q8 .lss i45 v11)
  ((ry1 (IntKind.wrap .i64 (b19.toNat : Int)) body44 (IntKind.wrap .i64 (most - 1))).bind fun v48 =>
  cond (Q8 .eql v48.2.2 3)
  (some ((⟨0, 0, [], []⟩ : Q0), 0, 5))
  (cond (Q8 .neq v48.2.2 0)
  (some ((⟨0, 0, [], []⟩ : Q0), 0, v48.2.2))
  (cond (Nat.ble ((l46.length + 1 + 4096) * 56) 17592186044416) (cond (decide (0 ≤ v48.2.1)) (cond (Nat.ble v48.2.1.toNat body44.length && Nat.ble body44.length body44.length) (Wj ry1 N c most v4 v11 b19 v21 n ((body44.take body44.length).drop v48.2.1.toNat) (IntKind.wrap .u64 (i45 + 1)) (l46 ++ [v48.1])) none) none) none)))
  (cond (Q3o .neq body44 [])
  (some ((⟨0, 0, [], []⟩ : Q0), 0, 5))
  ((Ye N l46).bind fun v56 =>
  cond v56
  (some ((⟨0, 0, [], []⟩ : Q0), 0, 16))
  (some ((⟨c.Kind, (IntKind.wrap .u64 v21.1.Kind), [], l46⟩ : Q0), (IntKind.wrap .i64 (c.Width + (IntKind.wrap .i64 v4))), 0))))
def Xh (ry1 : Int → (List UInt8) → Int → Option (Q0 × Int × Int)) (N : Nat) (c : Qh) (most : Int) (v4 : Int) (v11 : Int) : Nat → (List UInt8) → Int → (List Q0) → Option (Q0 × Int × Int)
 | 0, _, _, _ => none
 | n + 1, body77, i78, l79 =>
  cond (Q8 .lss i78 v11)
  ((ry1 (-1) body77 (IntKind.wrap .i64 (most - 1))).bind fun v81 =>
  cond (Q8 .eql v81.2.2 3)
  (some ((⟨0, 0, [], []⟩ : Q0), 0, 5))
  (cond (Q8 .neq v81.2.2 0)
  (some ((⟨0, 0, [], []⟩ : Q0), 0, v81.2.2))
  (cond (Nat.ble ((l79.length + 1 + 4096) * 56) 17592186044416) (cond (decide (0 ≤ v81.2.1)) (cond (Nat.ble v81.2.1.toNat body77.length && Nat.ble body77.length body77.length) (Xh ry1 N c most v4 v11 n ((body77.take body77.length).drop v81.2.1.toNat) (IntKind.wrap .u64 (i78 + 1)) (l79 ++ [v81.1])) none) none) none)))
  (cond (Q3o .neq body77 [])
  (some ((⟨0, 0, [], []⟩ : Q0), 0, 5))
  ((Ye N l79).bind fun v89 =>
  cond v89
  (some ((⟨0, 0, [], []⟩ : Q0), 0, 16))
  (some ((⟨c.Kind, 0, [], l79⟩ : Q0), (IntKind.wrap .i64 (c.Width + (IntKind.wrap .i64 v4))), 0))))
def Xd (ry1 : Int → (List UInt8) → Int → Option (Q0 × Int × Int)) (N : Nat) (c : Qh) (most : Int) (v4 : Int) (v11 : Int) (b94 : UInt8) (v96 : Qh × Bool) : Nat → (List UInt8) → Int → (List Q0) → Option (Q0 × Int × Int)
 | 0, _, _, _ => none
 | n + 1, body119, i120, l121 =>
  cond (Q8 .lss i120 v11)
  ((ry1 (IntKind.wrap .i64 (b94.toNat : Int)) body119 (IntKind.wrap .i64 (most - 1))).bind fun v123 =>
  cond (Q8 .eql v123.2.2 3)
  (some ((⟨0, 0, [], []⟩ : Q0), 0, 5))
  (cond (Q8 .neq v123.2.2 0)
  (some ((⟨0, 0, [], []⟩ : Q0), 0, v123.2.2))
  (cond (Nat.ble ((l121.length + 1 + 4096) * 56) 17592186044416) (cond (decide (0 ≤ v123.2.1)) (cond (Nat.ble v123.2.1.toNat body119.length && Nat.ble body119.length body119.length) (Xd ry1 N c most v4 v11 b94 v96 n ((body119.take body119.length).drop v123.2.1.toNat) (IntKind.wrap .u64 (i120 + 1)) (l121 ++ [v123.1])) none) none) none)))
  (cond (Q3o .neq body119 [])
  (some ((⟨0, 0, [], []⟩ : Q0), 0, 5))
  (some ((⟨c.Kind, (IntKind.wrap .u64 v96.1.Kind), [], l121⟩ : Q0), (IntKind.wrap .i64 (c.Width + (IntKind.wrap .i64 v4))), 0)))
def Xg (ry1 : Int → (List UInt8) → Int → Option (Q0 × Int × Int)) (N : Nat) (c : Qh) (most : Int) (v4 : Int) (v11 : Int) : Nat → (List UInt8) → Int → (List Q0) → Option (Q0 × Int × Int)
 | 0, _, _, _ => none
 | n + 1, body149, i150, l151 =>
  cond (Q8 .lss i150 v11)
  ((ry1 (-1) body149 (IntKind.wrap .i64 (most - 1))).bind fun v153 =>
  cond (Q8 .eql v153.2.2 3)
  (some ((⟨0, 0, [], []⟩ : Q0), 0, 5))
  (cond (Q8 .neq v153.2.2 0)
  (some ((⟨0, 0, [], []⟩ : Q0), 0, v153.2.2))
  (cond (Nat.ble ((l151.length + 1 + 4096) * 56) 17592186044416) (cond (decide (0 ≤ v153.2.1)) (cond (Nat.ble v153.2.1.toNat body149.length && Nat.ble body149.length body149.length) (Xg ry1 N c most v4 v11 n ((body149.take body149.length).drop v153.2.1.toNat) (IntKind.wrap .u64 (i150 + 1)) (l151 ++ [v153.1])) none) none) none)))
  (cond (Q3o .neq body149 [])
  (some ((⟨0, 0, [], []⟩ : Q0), 0, 5))
  (some ((⟨c.Kind, 0, [], l151⟩ : Q0), (IntKind.wrap .i64 (c.Width + (IntKind.wrap .i64 v4))), 0)))
def X9 (rz1 : (List UInt8) → Int → Option (Q0 × Int × Int)) (rv : Int → (List UInt8) → Int → Option (Q0 × Int × Int)) (rx1 : Qh → (List UInt8) → Int → Option (Q0 × Int × Int)) (ry1 : Int → (List UInt8) → Int → Option (Q0 × Int × Int)) (N : Nat) (c : Qh) (s_1 : List UInt8) (most : Int) : Option (Q0 × Int × Int) :=
 cond (Q8 .lss (s_1.length : Int) c.Width)
 (some ((⟨0, 0, [], []⟩ : Q0), 0, 3))
 (cond (decide (0 ≤ c.Width)) (cond (Nat.ble 0 c.Width.toNat && Nat.ble c.Width.toNat s_1.length) ((Zk N ((s_1.take c.Width.toNat).drop 0)).bind fun v4 =>
 cond (Q8 .gtr v4 (IntKind.wrap .u64 (IntKind.wrap .i64 ((s_1.length : Int) - c.Width))))
 (some ((⟨0, 0, [], []⟩ : Q0), 0, 3))
 (cond (decide (0 ≤ (IntKind.wrap .i64 (c.Width + (IntKind.wrap .i64 v4))))) (cond (Nat.ble c.Width.toNat ((IntKind.wrap .i64 (c.Width + (IntKind.wrap .i64 v4))).toNat) && Nat.ble ((IntKind.wrap .i64 (c.Width + (IntKind.wrap .i64 v4))).toNat) s_1.length) (cond (Q8 .lss (((s_1.take ((IntKind.wrap .i64 (c.Width + (IntKind.wrap .i64 v4))).toNat)).drop c.Width.toNat).length : Int) c.Width)
 (some ((⟨0, 0, [], []⟩ : Q0), 0, 5))
 (cond (Nat.ble 0 c.Width.toNat && Nat.ble c.Width.toNat ((s_1.take ((IntKind.wrap .i64 (c.Width + (IntKind.wrap .i64 v4))).toNat)).drop c.Width.toNat).length) ((Zk N ((((s_1.take ((IntKind.wrap .i64 (c.Width + (IntKind.wrap .i64 v4))).toNat)).drop c.Width.toNat).take c.Width.toNat).drop 0)).bind fun v11 =>
 cond (Nat.ble c.Width.toNat (((s_1.take ((IntKind.wrap .i64 (c.Width + (IntKind.wrap .i64 v4))).toNat)).drop c.Width.toNat).length) && Nat.ble (((s_1.take ((IntKind.wrap .i64 (c.Width + (IntKind.wrap .i64 v4))).toNat)).drop c.Width.toNat).length) ((s_1.take ((IntKind.wrap .i64 (c.Width + (IntKind.wrap .i64 v4))).toNat)).drop c.Width.toNat).length) (cond (Q8 .gtr v11 1000)
 (some ((⟨0, 0, [], []⟩ : Q0), 0, 4))
 (cond (Q8 .eql c.Kind 23)
 (cond (Q8 .neq ((v11 : Int).tmod 2) 0)
 (some ((⟨0, 0, [], []⟩ : Q0), 0, 5))
 (cond (Q8 .eql c.Kind 24)
 (cond (Q3o .eql ((((s_1.take ((IntKind.wrap .i64 (c.Width + (IntKind.wrap .i64 v4))).toNat)).drop c.Width.toNat).take (((s_1.take ((IntKind.wrap .i64 (c.Width + (IntKind.wrap .i64 v4))).toNat)).drop c.Width.toNat).length)).drop c.Width.toNat) [])
 (some ((⟨0, 0, [], []⟩ : Q0), 0, 5))
 ((idx ((((s_1.take ((IntKind.wrap .i64 (c.Width + (IntKind.wrap .i64 v4))).toNat)).drop c.Width.toNat).take (((s_1.take ((IntKind.wrap .i64 (c.Width + (IntKind.wrap .i64 v4))).toNat)).drop c.Width.toNat).length)).drop c.Width.toNat) 0).bind fun b19 =>
 (Zo N (IntKind.wrap .i64 (b19.toNat : Int))).bind fun v21 =>
 cond (!v21.2)
 (some ((⟨0, 0, [], []⟩ : Q0), 0, 8))
 (cond (Q8 .eql (IntKind.wrap .i64 (b19.toNat : Int)) 0)
 (some ((⟨0, 0, [], []⟩ : Q0), 0, 8))
 (cond (Nat.ble 1 (((((s_1.take ((IntKind.wrap .i64 (c.Width + (IntKind.wrap .i64 v4))).toNat)).drop c.Width.toNat).take (((s_1.take ((IntKind.wrap .i64 (c.Width + (IntKind.wrap .i64 v4))).toNat)).drop c.Width.toNat).length)).drop c.Width.toNat).length) && Nat.ble (((((s_1.take ((IntKind.wrap .i64 (c.Width + (IntKind.wrap .i64 v4))).toNat)).drop c.Width.toNat).take (((s_1.take ((IntKind.wrap .i64 (c.Width + (IntKind.wrap .i64 v4))).toNat)).drop c.Width.toNat).length)).drop c.Width.toNat).length) ((((s_1.take ((IntKind.wrap .i64 (c.Width + (IntKind.wrap .i64 v4))).toNat)).drop c.Width.toNat).take (((s_1.take ((IntKind.wrap .i64 (c.Width + (IntKind.wrap .i64 v4))).toNat)).drop c.Width.toNat).length)).drop c.Width.toNat).length) (Wj ry1 N c most v4 v11 b19 v21 N ((((((s_1.take ((IntKind.wrap .i64 (c.Width + (IntKind.wrap .i64 v4))).toNat)).drop c.Width.toNat).take (((s_1.take ((IntKind.wrap .i64 (c.Width + (IntKind.wrap .i64 v4))).toNat)).drop c.Width.toNat).length)).drop c.Width.toNat).take (((((s_1.take ((IntKind.wrap .i64 (c.Width + (IntKind.wrap .i64 v4))).toNat)).drop c.Width.toNat).take (((s_1.take ((IntKind.wrap .i64 (c.Width + (IntKind.wrap .i64 v4))).toNat)).drop c.Width.toNat).length)).drop c.Width.toNat).length)).drop 1) 0 []) none))))
 (Xh ry1 N c most v4 v11 N ((((s_1.take ((IntKind.wrap .i64 (c.Width + (IntKind.wrap .i64 v4))).toNat)).drop c.Width.toNat).take (((s_1.take ((IntKind.wrap .i64 (c.Width + (IntKind.wrap .i64 v4))).toNat)).drop c.Width.toNat).length)).drop c.Width.toNat) 0 [])))
 (cond (Q8 .eql c.Kind 24)
 (cond (Q3o .eql ((((s_1.take ((IntKind.wrap .i64 (c.Width + (IntKind.wrap .i64 v4))).toNat)).drop c.Width.toNat).take (((s_1.take ((IntKind.wrap .i64 (c.Width + (IntKind.wrap .i64 v4))).toNat)).drop c.Width.toNat).length)).drop c.Width.toNat) [])
 (some ((⟨0, 0, [], []⟩ : Q0), 0, 5))
 ((idx ((((s_1.take ((IntKind.wrap .i64 (c.Width + (IntKind.wrap .i64 v4))).toNat)).drop c.Width.toNat).take (((s_1.take ((IntKind.wrap .i64 (c.Width + (IntKind.wrap .i64 v4))).toNat)).drop c.Width.toNat).length)).drop c.Width.toNat) 0).bind fun b94 =>
 (Zo N (IntKind.wrap .i64 (b94.toNat : Int))).bind fun v96 =>
 cond (!v96.2)
 (some ((⟨0, 0, [], []⟩ : Q0), 0, 8))
 (cond (Q8 .eql (IntKind.wrap .i64 (b94.toNat : Int)) 0)
 (some ((⟨0, 0, [], []⟩ : Q0), 0, 8))
 (cond (Nat.ble 1 (((((s_1.take ((IntKind.wrap .i64 (c.Width + (IntKind.wrap .i64 v4))).toNat)).drop c.Width.toNat).take (((s_1.take ((IntKind.wrap .i64 (c.Width + (IntKind.wrap .i64 v4))).toNat)).drop c.Width.toNat).length)).drop c.Width.toNat).length) && Nat.ble (((((s_1.take ((IntKind.wrap .i64 (c.Width + (IntKind.wrap .i64 v4))).toNat)).drop c.Width.toNat).take (((s_1.take ((IntKind.wrap .i64 (c.Width + (IntKind.wrap .i64 v4))).toNat)).drop c.Width.toNat).length)).drop c.Width.toNat).length) ((((s_1.take ((IntKind.wrap .i64 (c.Width + (IntKind.wrap .i64 v4))).toNat)).drop c.Width.toNat).take (((s_1.take ((IntKind.wrap .i64 (c.Width + (IntKind.wrap .i64 v4))).toNat)).drop c.Width.toNat).length)).drop c.Width.toNat).length) (Xd ry1 N c most v4 v11 b94 v96 N ((((((s_1.take ((IntKind.wrap .i64 (c.Width + (IntKind.wrap .i64 v4))).toNat)).drop c.Width.toNat).take (((s_1.take ((IntKind.wrap .i64 (c.Width + (IntKind.wrap .i64 v4))).toNat)).drop c.Width.toNat).length)).drop c.Width.toNat).take (((((s_1.take ((IntKind.wrap .i64 (c.Width + (IntKind.wrap .i64 v4))).toNat)).drop c.Width.toNat).take (((s_1.take ((IntKind.wrap .i64 (c.Width + (IntKind.wrap .i64 v4))).toNat)).drop c.Width.toNat).length)).drop c.Width.toNat).length)).drop 1) 0 []) none))))
 (Xg ry1 N c most v4 v11 N ((((s_1.take ((IntKind.wrap .i64 (c.Width + (IntKind.wrap .i64 v4))).toNat)).drop c.Width.toNat).take (((s_1.take ((IntKind.wrap .i64 (c.Width + (IntKind.wrap .i64 v4))).toNat)).drop c.Width.toNat).length)).drop c.Width.toNat) 0 [])))) none) none)) none) none)) none) none)
theorem Q0x {rz1 : (List UInt8) → Int → Option (Q0 × Int × Int)} {rv : Int → (List UInt8) → Int → Option (Q0 × Int × Int)} {rx1 : Qh → (List UInt8) → Int → Option (Q0 × Int × Int)} {ry1 : Int → (List UInt8) → Int → Option (Q0 × Int × Int)} (hx2 : ∀ {s_0} {most} {r}, rz1 s_0 most = some r → Zp Tryz.prog G1 18 [.str s_0, .int .i64 most] (.tuple [.agg (Q0.cells r.1), .int .i64 r.2.1, .int .i64 r.2.2])) (hy2 : ∀ {code} {s_1} {most} {r}, rv code s_1 most = some r → Zp Tryz.prog G1 65 [.int .i64 code, .str s_1, .int .i64 most] (.tuple [.agg (Q0.cells r.1), .int .i64 r.2.1, .int .i64 r.2.2])) (hy3 : ∀ {c} {s_1} {most} {r}, rx1 c s_1 most = some r → Zp Tryz.prog G1 98 [.agg (Qh.cells c), .str s_1, .int .i64 most] (.tuple [.agg (Q0.cells r.1), .int .i64 r.2.1, .int .i64 r.2.2])) (hv2 : ∀ {code} {s_1} {most} {r}, ry1 code s_1 most = some r → Zp Tryz.prog G1 120 [.int .i64 code, .str s_1, .int .i64 most] (.tuple [.agg (Q0.cells r.1), .int .i64 r.2.1, .int .i64 r.2.2])) {N} {c} {s_1} {most} {r} (h : X9 rz1 rv rx1 ry1 N c s_1 most = some r) : Zp Tryz.prog G1 98 [.agg (Qh.cells c), .str s_1, .int .i64 most] (.tuple [.agg (Q0.cells r.1), .int .i64 r.2.1, .int .i64 r.2.2]) := by
 refine Q4 k98 ?_
 unfold X9 at h
 apply iU h <;> intro h
 ·obtain rfl := Ql h; exact (Frz.tuple' (.cons q4n p2))
 ·obtain ⟨hk2, h⟩ := Qgg h
  refine Q72 hk2 ?_
  refine kU h fun h => ?_
  refine cP h W2 p1 fun v4 h => ?_
  apply iU h <;> intro h
  ·obtain rfl := Ql h; exact (Frz.tuple' (.cons q4n p2))
  ·refine Q72 hk2 ?_
   refine kU h fun h => ?_
   refine kU h fun h => ?_
   apply iU h <;> intro h
   ·obtain rfl := Ql h; exact (Frz.tuple' (.cons q4n p2))
   ·refine Q72 hk2 ?_
    refine kU h fun h => ?_
    refine cP h W2 p1 fun v11 h => ?_
    refine Q72 hk2 ?_
    refine kU h fun h => ?_
    apply iU h <;> intro h
    ·obtain rfl := Ql h; exact (Frz.tuple' (.cons q4n p2))
    ·refine ifO h (fun hc15 h => ?_) (fun hc15 h => ?_)
     ·apply iU h <;> intro h
      ·obtain rfl := Ql h; exact (Frz.tuple' (.cons q4n p2))
      ·refine ifO h (fun hc17 h => ?_) (fun hc17 h => ?_)
       ·apply iU h <;> intro h
        ·obtain rfl := Ql h; exact (Frz.tuple' (.cons q4n p2))
        ·refine ifT hc17 ?_
         refine xB h fun b19 h => ?_
         refine cP h Xc p1 fun v21 h => ?_
         apply iU h <;> intro h
         ·obtain rfl := Ql h; exact (Frz.tuple' (.cons q4n p2))
         ·apply iU h <;> intro h
          ·obtain rfl := Ql h; exact (Frz.tuple' (.cons q4n p2))
          ·refine Qw ?_
           refine kU h fun h => ?_
           refine lpC (τ := (List UInt8) × Int × (List Q0)) (fun ⟨body44, i45, _⟩ => (.any :: .any :: iI most :: .ptr 0 0 :: .any :: .any :: .ptr 1 0 :: a4 (.p (.int .i64 (IntKind.wrap .i64 (c.Width + (IntKind.wrap .i64 v4)))) :: iS body44 :: iW v11 :: .ptr 2 0 :: iI (IntKind.wrap .i64 (b19.toNat : Int)) :: .any :: .any :: iW i45 :: a16 (a16 (a16 (a16 (a16 (a16 (a16 (a16 (a8 ([])))))))))) : List AV)) (fun ⟨_, _, l46⟩ => (.cells (iI c.Code :: iI c.Kind :: iI c.Width :: .p (.bool c.Sized) :: .p (.bool c.Items) :: []) :: .cells (iI 0 :: iW 0 :: iS [] :: .p .nilSlice :: []) :: .cells (iI c.Kind :: iW (IntKind.wrap .u64 v21.1.Kind) :: iS [] :: .slice 4 4 0 l46.length :: []) :: .cells (iI v21.1.Code :: iI v21.1.Kind :: iI v21.1.Width :: .p (.bool v21.1.Sized) :: .p (.bool v21.1.Items) :: []) :: .cells (Xq Q0.cells l46) :: [] : List AObj)) (fun n0 ⟨body44, i45, l46⟩ => Wj ry1 N c most v4 v11 b19 v21 n0 body44 i45 l46) (((((((s_1.take ((IntKind.wrap .i64 (c.Width + (IntKind.wrap .i64 v4))).toNat)).drop c.Width.toNat).take (((s_1.take ((IntKind.wrap .i64 (c.Width + (IntKind.wrap .i64 v4))).toNat)).drop c.Width.toNat).length)).drop c.Width.toNat).take (((((s_1.take ((IntKind.wrap .i64 (c.Width + (IntKind.wrap .i64 v4))).toNat)).drop c.Width.toNat).take (((s_1.take ((IntKind.wrap .i64 (c.Width + (IntKind.wrap .i64 v4))).toNat)).drop c.Width.toNat).length)).drop c.Width.toNat).length)).drop 1), 0, []) h (fun i => i) ⟨(rW <| rE rfl <| rE rfl <| rW <| rE rfl <| rV <| rE rfl <| rE rfl <| rE rfl <| rE rfl <| rE rfl <| rW <| rE rfl <| rX <| rX <| rX <| rX <| rX <| rX <| rX <| rX <| rX <| rX <| rX <| rX <| rX <| rX <| rX <| rX <| rX <| rN), (hE rfl <| hE rfl <| hC rfl (rE rfl <| rE rfl <| rE rfl <| rS <| rN) <| hE rfl <| hV lb <| hN), rfl, rfl, (roE rfl <| roE rfl <| roE rfl <| roE rfl <| roE (Qb _ _ _) <| roN)⟩ fun n0 ⟨body44, i45, l46⟩ h => ?_
           simp only [Wj] at h
           apply iU h <;> intro h
           ·refine cP h hv2 p3 fun v48 h => ?_
            apply iU h <;> intro h
            ·refine ifT (by unfold Q8; decide) ?_
             obtain rfl := Ql h; exact (Frz.tuple' (.cons q4n p2))
            ·apply iU h <;> intro h
             ·obtain rfl := Ql h; exact (Frz.tuple' (.cons q4n p2))
             ·refine Qw ?_
              obtain ⟨hk52, h⟩ := Qgg h
              refine Q72 (Gx (c := Q0.cells) (e := 4) (fun _ => rfl) (by simp) hk52) ?_
              refine Q2n (c := Q0.cells) [v48.1] rfl ?_
              refine kU h fun h => ?_
              refine kU h fun h => ?_
              show Exists _
              exact ⟨(n0, ((body44.take body44.length).drop v48.2.1.toNat), (IntKind.wrap .u64 (i45 + 1)), (l46 ++ [v48.1])), h, Nat.lt_succ_self _, (rho [0, 1, 2, 3, 7]), ⟨(rW <| rE rfl <| rE rfl <| rW <| rE rfl <| rV <| rE rfl <| rE rfl <| rE rfl <| rE rfl <| rE rfl <| rW <| rE rfl <| rX <| rX <| rX <| rX <| rX <| rX <| rX <| rX <| rX <| rX <| rX <| rX <| rX <| rX <| rX <| rX <| rX <| rN), (hE rfl <| hE rfl <| hC rfl (rE rfl <| rE rfl <| rE rfl <| rL (by simp) rfl <| rN) <| hE rfl <| hO rfl <| hN), rfl, rfl, (roE rfl <| roE rfl <| roE rfl <| roE rfl <| roE (Qb _ _ _) <| roN)⟩⟩
           ·apply iU h <;> intro h
            ·obtain rfl := Ql h; exact (Frz.tuple' (.cons q4n p2))
            ·refine ifT hc15 ?_
             refine cK h Ux (.cons (Q0.frz_own (l := l46) rfl trivial (by simp)) .nil) fun v56 h => ?_
             apply iU h <;> intro h
             ·obtain rfl := Ql h; exact (Frz.tuple' (.cons q4n p2))
             ·obtain rfl := Ql h; exact (Frz.tuple' (.cons (Frz.agg' (.cons (.p _) (.cons (.p _) (.cons (.p _) (.cons (Q0.frz_own (l := l46) rfl trivial (by simp)) .nil))))) p2))
       ·refine ifF hc17 ?_
        refine lpC (τ := (List UInt8) × Int × (List Q0)) (fun ⟨body77, i78, _⟩ => (.any :: .any :: iI most :: .ptr 0 0 :: .any :: .any :: .ptr 1 0 :: a4 (.p (.int .i64 (IntKind.wrap .i64 (c.Width + (IntKind.wrap .i64 v4)))) :: iS body77 :: iW v11 :: .ptr 2 0 :: iI (-1) :: .any :: .any :: iW i78 :: a16 (a16 (a16 (a16 (a16 (a16 (a16 (a16 (a8 ([])))))))))) : List AV)) (fun ⟨_, _, l79⟩ => (.cells (iI c.Code :: iI c.Kind :: iI c.Width :: .p (.bool c.Sized) :: .p (.bool c.Items) :: []) :: .cells (iI 0 :: iW 0 :: iS [] :: .p .nilSlice :: []) :: .cells (iI c.Kind :: iW 0 :: iS [] :: .slice 4 3 0 l79.length :: []) :: .cells (Xq Q0.cells l79) :: [] : List AObj)) (fun n1 ⟨body77, i78, l79⟩ => Xh ry1 N c most v4 v11 n1 body77 i78 l79) (((((s_1.take ((IntKind.wrap .i64 (c.Width + (IntKind.wrap .i64 v4))).toNat)).drop c.Width.toNat).take (((s_1.take ((IntKind.wrap .i64 (c.Width + (IntKind.wrap .i64 v4))).toNat)).drop c.Width.toNat).length)).drop c.Width.toNat), 0, []) h (fun i => i) ⟨(rW <| rE rfl <| rE rfl <| rW <| rE rfl <| rV <| rE rfl <| rE rfl <| rE rfl <| rE rfl <| rE rfl <| rW <| rE rfl <| rX <| rX <| rX <| rX <| rX <| rX <| rX <| rX <| rX <| rX <| rX <| rX <| rX <| rX <| rX <| rX <| rX <| rN), (hE rfl <| hE rfl <| hC rfl (rE rfl <| rE rfl <| rE rfl <| rS <| rN) <| hV lb <| hN), rfl, rfl, (roE rfl <| roE rfl <| roE rfl <| roE (Qb _ _ _) <| roN)⟩ fun n1 ⟨body77, i78, l79⟩ h => ?_
        simp only [Xh] at h
        apply iU h <;> intro h
        ·refine cP h hv2 p3 fun v81 h => ?_
         apply iU h <;> intro h
         ·refine ifT (by unfold Q8; decide) ?_
          obtain rfl := Ql h; exact (Frz.tuple' (.cons q4n p2))
         ·apply iU h <;> intro h
          ·obtain rfl := Ql h; exact (Frz.tuple' (.cons q4n p2))
          ·refine Qw ?_
           obtain ⟨hk85, h⟩ := Qgg h
           refine Q72 (Gx (c := Q0.cells) (e := 4) (fun _ => rfl) (by simp) hk85) ?_
           refine Q2n (c := Q0.cells) [v81.1] rfl ?_
           refine kU h fun h => ?_
           refine kU h fun h => ?_
           show Exists _
           exact ⟨(n1, ((body77.take body77.length).drop v81.2.1.toNat), (IntKind.wrap .u64 (i78 + 1)), (l79 ++ [v81.1])), h, Nat.lt_succ_self _, (rho [0, 1, 2, 6]), ⟨(rW <| rE rfl <| rE rfl <| rW <| rE rfl <| rV <| rE rfl <| rE rfl <| rE rfl <| rE rfl <| rE rfl <| rW <| rE rfl <| rX <| rX <| rX <| rX <| rX <| rX <| rX <| rX <| rX <| rX <| rX <| rX <| rX <| rX <| rX <| rX <| rX <| rN), (hE rfl <| hE rfl <| hC rfl (rE rfl <| rE rfl <| rE rfl <| rL (by simp) rfl <| rN) <| hO rfl <| hN), rfl, rfl, (roE rfl <| roE rfl <| roE rfl <| roE (Qb _ _ _) <| roN)⟩⟩
        ·apply iU h <;> intro h
         ·obtain rfl := Ql h; exact (Frz.tuple' (.cons q4n p2))
         ·refine ifT hc15 ?_
          refine cK h Ux (.cons (Q0.frz_own (l := l79) rfl trivial (by simp)) .nil) fun v89 h => ?_
          apply iU h <;> intro h
          ·obtain rfl := Ql h; exact (Frz.tuple' (.cons q4n p2))
          ·obtain rfl := Ql h; exact (Frz.tuple' (.cons (Frz.agg' (.cons (.p _) (.cons (.p _) (.cons (.p _) (.cons (Q0.frz_own (l := l79) rfl trivial (by simp)) .nil))))) p2))
     ·refine ifO h (fun hc92 h => ?_) (fun hc92 h => ?_)
      ·apply iU h <;> intro h
       ·obtain rfl := Ql h; exact (Frz.tuple' (.cons q4n p2))
       ·refine ifT hc92 ?_
        refine xB h fun b94 h => ?_
        refine cP h Xc p1 fun v96 h => ?_
        apply iU h <;> intro h
        ·obtain rfl := Ql h; exact (Frz.tuple' (.cons q4n p2))
        ·apply iU h <;> intro h
         ·obtain rfl := Ql h; exact (Frz.tuple' (.cons q4n p2))
         ·refine Qw ?_
          refine kU h fun h => ?_
          refine lpC (τ := (List UInt8) × Int × (List Q0)) (fun ⟨body119, i120, _⟩ => (.any :: .any :: iI most :: .ptr 0 0 :: .any :: .any :: .ptr 1 0 :: a4 (.p (.int .i64 (IntKind.wrap .i64 (c.Width + (IntKind.wrap .i64 v4)))) :: iS body119 :: iW v11 :: .ptr 2 0 :: iI (IntKind.wrap .i64 (b94.toNat : Int)) :: .any :: .any :: iW i120 :: a16 (a16 (a16 (a16 (a16 (a16 (a16 (a16 (a8 ([])))))))))) : List AV)) (fun ⟨_, _, l121⟩ => (.cells (iI c.Code :: iI c.Kind :: iI c.Width :: .p (.bool c.Sized) :: .p (.bool c.Items) :: []) :: .cells (iI 0 :: iW 0 :: iS [] :: .p .nilSlice :: []) :: .cells (iI c.Kind :: iW (IntKind.wrap .u64 v96.1.Kind) :: iS [] :: .slice 4 4 0 l121.length :: []) :: .cells (iI v96.1.Code :: iI v96.1.Kind :: iI v96.1.Width :: .p (.bool v96.1.Sized) :: .p (.bool v96.1.Items) :: []) :: .cells (Xq Q0.cells l121) :: [] : List AObj)) (fun n2 ⟨body119, i120, l121⟩ => Xd ry1 N c most v4 v11 b94 v96 n2 body119 i120 l121) (((((((s_1.take ((IntKind.wrap .i64 (c.Width + (IntKind.wrap .i64 v4))).toNat)).drop c.Width.toNat).take (((s_1.take ((IntKind.wrap .i64 (c.Width + (IntKind.wrap .i64 v4))).toNat)).drop c.Width.toNat).length)).drop c.Width.toNat).take (((((s_1.take ((IntKind.wrap .i64 (c.Width + (IntKind.wrap .i64 v4))).toNat)).drop c.Width.toNat).take (((s_1.take ((IntKind.wrap .i64 (c.Width + (IntKind.wrap .i64 v4))).toNat)).drop c.Width.toNat).length)).drop c.Width.toNat).length)).drop 1), 0, []) h (fun i => i) ⟨(rW <| rE rfl <| rE rfl <| rW <| rE rfl <| rV <| rE rfl <| rE rfl <| rE rfl <| rE rfl <| rE rfl <| rW <| rE rfl <| rX <| rX <| rX <| rX <| rX <| rX <| rX <| rX <| rX <| rX <| rX <| rX <| rX <| rX <| rX <| rX <| rX <| rN), (hE rfl <| hE rfl <| hC rfl (rE rfl <| rE rfl <| rE rfl <| rS <| rN) <| hE rfl <| hV lb <| hN), rfl, rfl, (roE rfl <| roE rfl <| roE rfl <| roE rfl <| roE (Qb _ _ _) <| roN)⟩ fun n2 ⟨body119, i120, l121⟩ h => ?_
          simp only [Xd] at h
          apply iU h <;> intro h
          ·refine cP h hv2 p3 fun v123 h => ?_
           apply iU h <;> intro h
           ·refine ifT (by unfold Q8; decide) ?_
            obtain rfl := Ql h; exact (Frz.tuple' (.cons q4n p2))
           ·apply iU h <;> intro h
            ·obtain rfl := Ql h; exact (Frz.tuple' (.cons q4n p2))
            ·refine Qw ?_
             obtain ⟨hk127, h⟩ := Qgg h
             refine Q72 (Gx (c := Q0.cells) (e := 4) (fun _ => rfl) (by simp) hk127) ?_
             refine Q2n (c := Q0.cells) [v123.1] rfl ?_
             refine kU h fun h => ?_
             refine kU h fun h => ?_
             show Exists _
             exact ⟨(n2, ((body119.take body119.length).drop v123.2.1.toNat), (IntKind.wrap .u64 (i120 + 1)), (l121 ++ [v123.1])), h, Nat.lt_succ_self _, (rho [0, 1, 2, 3, 7]), ⟨(rW <| rE rfl <| rE rfl <| rW <| rE rfl <| rV <| rE rfl <| rE rfl <| rE rfl <| rE rfl <| rE rfl <| rW <| rE rfl <| rX <| rX <| rX <| rX <| rX <| rX <| rX <| rX <| rX <| rX <| rX <| rX <| rX <| rX <| rX <| rX <| rX <| rN), (hE rfl <| hE rfl <| hC rfl (rE rfl <| rE rfl <| rE rfl <| rL (by simp) rfl <| rN) <| hE rfl <| hO rfl <| hN), rfl, rfl, (roE rfl <| roE rfl <| roE rfl <| roE rfl <| roE (Qb _ _ _) <| roN)⟩⟩
          ·apply iU h <;> intro h
           ·obtain rfl := Ql h; exact (Frz.tuple' (.cons q4n p2))
           ·refine ifF hc15 ?_
            obtain rfl := Ql h; exact (Frz.tuple' (.cons (Frz.agg' (.cons (.p _) (.cons (.p _) (.cons (.p _) (.cons (Q0.frz_own (l := l121) rfl trivial (by simp)) .nil))))) p2))
      ·refine ifF hc92 ?_
       refine lpC (τ := (List UInt8) × Int × (List Q0)) (fun ⟨body149, i150, _⟩ => (.any :: .any :: iI most :: .ptr 0 0 :: .any :: .any :: .ptr 1 0 :: a4 (.p (.int .i64 (IntKind.wrap .i64 (c.Width + (IntKind.wrap .i64 v4)))) :: iS body149 :: iW v11 :: .ptr 2 0 :: iI (-1) :: .any :: .any :: iW i150 :: a16 (a16 (a16 (a16 (a16 (a16 (a16 (a16 (a8 ([])))))))))) : List AV)) (fun ⟨_, _, l151⟩ => (.cells (iI c.Code :: iI c.Kind :: iI c.Width :: .p (.bool c.Sized) :: .p (.bool c.Items) :: []) :: .cells (iI 0 :: iW 0 :: iS [] :: .p .nilSlice :: []) :: .cells (iI c.Kind :: iW 0 :: iS [] :: .slice 4 3 0 l151.length :: []) :: .cells (Xq Q0.cells l151) :: [] : List AObj)) (fun n3 ⟨body149, i150, l151⟩ => Xg ry1 N c most v4 v11 n3 body149 i150 l151) (((((s_1.take ((IntKind.wrap .i64 (c.Width + (IntKind.wrap .i64 v4))).toNat)).drop c.Width.toNat).take (((s_1.take ((IntKind.wrap .i64 (c.Width + (IntKind.wrap .i64 v4))).toNat)).drop c.Width.toNat).length)).drop c.Width.toNat), 0, []) h (fun i => i) ⟨(rW <| rE rfl <| rE rfl <| rW <| rE rfl <| rV <| rE rfl <| rE rfl <| rE rfl <| rE rfl <| rE rfl <| rW <| rE rfl <| rX <| rX <| rX <| rX <| rX <| rX <| rX <| rX <| rX <| rX <| rX <| rX <| rX <| rX <| rX <| rX <| rX <| rN), (hE rfl <| hE rfl <| hC rfl (rE rfl <| rE rfl <| rE rfl <| rS <| rN) <| hV lb <| hN), rfl, rfl, (roE rfl <| roE rfl <| roE rfl <| roE (Qb _ _ _) <| roN)⟩ fun n3 ⟨body149, i150, l151⟩ h => ?_
       simp only [Xg] at h
       apply iU h <;> intro h
       ·refine cP h hv2 p3 fun v153 h => ?_
        apply iU h <;> intro h
        ·refine ifT (by unfold Q8; decide) ?_
         obtain rfl := Ql h; exact (Frz.tuple' (.cons q4n p2))
        ·apply iU h <;> intro h
         ·obtain rfl := Ql h; exact (Frz.tuple' (.cons q4n p2))
         ·refine Qw ?_
          obtain ⟨hk157, h⟩ := Qgg h
          refine Q72 (Gx (c := Q0.cells) (e := 4) (fun _ => rfl) (by simp) hk157) ?_
          refine Q2n (c := Q0.cells) [v153.1] rfl ?_
          refine kU h fun h => ?_
          refine kU h fun h => ?_
          show Exists _
          exact ⟨(n3, ((body149.take body149.length).drop v153.2.1.toNat), (IntKind.wrap .u64 (i150 + 1)), (l151 ++ [v153.1])), h, Nat.lt_succ_self _, (rho [0, 1, 2, 6]), ⟨(rW <| rE rfl <| rE rfl <| rW <| rE rfl <| rV <| rE rfl <| rE rfl <| rE rfl <| rE rfl <| rE rfl <| rW <| rE rfl <| rX <| rX <| rX <| rX <| rX <| rX <| rX <| rX <| rX <| rX <| rX <| rX <| rX <| rX <| rX <| rX <| rX <| rN), (hE rfl <| hE rfl <| hC rfl (rE rfl <| rE rfl <| rE rfl <| rL (by simp) rfl <| rN) <| hO rfl <| hN), rfl, rfl, (roE rfl <| roE rfl <| roE rfl <| roE (Qb _ _ _) <| roN)⟩⟩
       ·apply iU h <;> intro h
        ·obtain rfl := Ql h; exact (Frz.tuple' (.cons q4n p2))
        ·refine ifF hc15 ?_
         obtain rfl := Ql h; exact (Frz.tuple' (.cons (Frz.agg' (.cons (.p _) (.cons (.p _) (.cons (.p _) (.cons (Q0.frz_own (l := l151) rfl trivial (by simp)) .nil))))) p2))
def Yt (rz1 : (List UInt8) → Int → Option (Q0 × Int × Int)) (rv : Int → (List UInt8) → Int → Option (Q0 × Int × Int)) (rx1 : Qh → (List UInt8) → Int → Option (Q0 × Int × Int)) (ry1 : Int → (List UInt8) → Int → Option (Q0 × Int × Int)) (_N : Nat) (code : Int) (s_1 : List UInt8) (most : Int) : Option (Q0 × Int × Int) :=
 cond (Q8 .lss code 0)
 ((rz1 s_1 most).bind fun v2 =>
 some (v2.1, v2.2.1, v2.2.2))
 ((rv code s_1 most).bind fun v4 =>
 some (v4.1, v4.2.1, v4.2.2))
theorem Q1o {rz1 : (List UInt8) → Int → Option (Q0 × Int × Int)} {rv : Int → (List UInt8) → Int → Option (Q0 × Int × Int)} {rx1 : Qh → (List UInt8) → Int → Option (Q0 × Int × Int)} {ry1 : Int → (List UInt8) → Int → Option (Q0 × Int × Int)} (hx2 : ∀ {s_0} {most} {r}, rz1 s_0 most = some r → Zp Tryz.prog G1 18 [.str s_0, .int .i64 most] (.tuple [.agg (Q0.cells r.1), .int .i64 r.2.1, .int .i64 r.2.2])) (hy2 : ∀ {code} {s_1} {most} {r}, rv code s_1 most = some r → Zp Tryz.prog G1 65 [.int .i64 code, .str s_1, .int .i64 most] (.tuple [.agg (Q0.cells r.1), .int .i64 r.2.1, .int .i64 r.2.2])) (hy3 : ∀ {c} {s_1} {most} {r}, rx1 c s_1 most = some r → Zp Tryz.prog G1 98 [.agg (Qh.cells c), .str s_1, .int .i64 most] (.tuple [.agg (Q0.cells r.1), .int .i64 r.2.1, .int .i64 r.2.2])) (hv2 : ∀ {code} {s_1} {most} {r}, ry1 code s_1 most = some r → Zp Tryz.prog G1 120 [.int .i64 code, .str s_1, .int .i64 most] (.tuple [.agg (Q0.cells r.1), .int .i64 r.2.1, .int .i64 r.2.2])) {N} {code} {s_1} {most} {r} (h : Yt rz1 rv rx1 ry1 N code s_1 most = some r) : Zp Tryz.prog G1 120 [.int .i64 code, .str s_1, .int .i64 most] (.tuple [.agg (Q0.cells r.1), .int .i64 r.2.1, .int .i64 r.2.2]) := by
 refine Q4 Qvs ?_
 unfold Yt at h
 apply iU h <;> intro h
 ·refine cP h hx2 p2 fun v2 h => ?_
  obtain rfl := Ql h; exact (Frz.tuple' (.cons q4 p2))
 ·refine cP h hy2 p3 fun v4 h => ?_
  obtain rfl := Ql h; exact (Frz.tuple' (.cons q4 p2))
def Q7 : Nat → ((List UInt8) → Int → Option (Q0 × Int × Int)) × (Int → (List UInt8) → Int → Option (Q0 × Int × Int)) × (Qh → (List UInt8) → Int → Option (Q0 × Int × Int)) × (Int → (List UInt8) → Int → Option (Q0 × Int × Int))
 | 0 => (fun _ _ => none, fun _ _ _ => none, fun _ _ _ => none, fun _ _ _ => none)
 | N + 1 => (Wu ((Q7 N).1) ((Q7 N).2.1) ((Q7 N).2.2.1) ((Q7 N).2.2.2) N, Ys ((Q7 N).1) ((Q7 N).2.1) ((Q7 N).2.2.1) ((Q7 N).2.2.2) N, X9 ((Q7 N).1) ((Q7 N).2.1) ((Q7 N).2.2.1) ((Q7 N).2.2.2) N, Yt ((Q7 N).1) ((Q7 N).2.1) ((Q7 N).2.2.1) ((Q7 N).2.2.2) N)
def Qp (N : Nat) : (List UInt8) → Int → Option (Q0 × Int × Int) := (Q7 N).1
def Y1 (N : Nat) : Int → (List UInt8) → Int → Option (Q0 × Int × Int) := (Q7 N).2.1
def X8 (N : Nat) : Qh → (List UInt8) → Int → Option (Q0 × Int × Int) := (Q7 N).2.2.1
def Xm (N : Nat) : Int → (List UInt8) → Int → Option (Q0 × Int × Int) := (Q7 N).2.2.2
theorem Q1a : ∀ N, (∀ {s_0 : List UInt8} {most : Int} {r : Q0 × Int × Int}, (Q7 N).1 s_0 most = some r → Zp Tryz.prog G1 18 [.str s_0, .int .i64 most] (.tuple [.agg (Q0.cells r.1), .int .i64 r.2.1, .int .i64 r.2.2])) ∧ (∀ {code : Int} {s_1 : List UInt8} {most : Int} {r : Q0 × Int × Int}, (Q7 N).2.1 code s_1 most = some r → Zp Tryz.prog G1 65 [.int .i64 code, .str s_1, .int .i64 most] (.tuple [.agg (Q0.cells r.1), .int .i64 r.2.1, .int .i64 r.2.2])) ∧ (∀ {c : Qh} {s_1 : List UInt8} {most : Int} {r : Q0 × Int × Int}, (Q7 N).2.2.1 c s_1 most = some r → Zp Tryz.prog G1 98 [.agg (Qh.cells c), .str s_1, .int .i64 most] (.tuple [.agg (Q0.cells r.1), .int .i64 r.2.1, .int .i64 r.2.2])) ∧ (∀ {code : Int} {s_1 : List UInt8} {most : Int} {r : Q0 × Int × Int}, (Q7 N).2.2.2 code s_1 most = some r → Zp Tryz.prog G1 120 [.int .i64 code, .str s_1, .int .i64 most] (.tuple [.agg (Q0.cells r.1), .int .i64 r.2.1, .int .i64 r.2.2])) := by
 intro N
 induction N with
 | zero => exact ⟨(fun h => by simp [Q7] at h), (fun h => by simp [Q7] at h), (fun h => by simp [Q7] at h), (fun h => by simp [Q7] at h)⟩
 | succ N ih => exact ⟨(fun h => Q19 (N := N) (fun h => ih.1 h) (fun h => ih.2.1 h) (fun h => ih.2.2.1 h) (fun h => ih.2.2.2 h) h), (fun h => Q1l (N := N) (fun h => ih.1 h) (fun h => ih.2.1 h) (fun h => ih.2.2.1 h) (fun h => ih.2.2.2 h) h), (fun h => Q0x (N := N) (fun h => ih.1 h) (fun h => ih.2.1 h) (fun h => ih.2.2.1 h) (fun h => ih.2.2.2 h) h), (fun h => Q1o (N := N) (fun h => ih.1 h) (fun h => ih.2.1 h) (fun h => ih.2.2.1 h) (fun h => ih.2.2.2 h) h)⟩
theorem J3 {N : Nat} {s_0 : List UInt8} {most : Int} {r : Q0 × Int × Int} (h : Qp N s_0 most = some r) : Zp Tryz.prog G1 18 [.str s_0, .int .i64 most] (.tuple [.agg (Q0.cells r.1), .int .i64 r.2.1, .int .i64 r.2.2]) := (Q1a N).1 h
def Zr (rz : Q0 → Q0 → Option (Bool)) (N : Nat) (a : Q0) (b : Q0) : Nat → Int → Option (Bool)
 | 0, _ => none
 | n + 1, i22 =>
  cond (Q8 .lss i22 ((Q0.rows a.Items).length : Int))
  ((idx a.Items i22).bind fun y24 =>
  (idx b.Items i22).bind fun y26 =>
  (rz y24 y26).bind fun v28 =>
  cond (!v28)
  (some false)
  (Zr rz N a b n (IntKind.wrap .i64 (i22 + 1))))
  (some true)
def Wy (rz : Q0 → Q0 → Option (Bool)) (N : Nat) (a : Q0) (b : Q0) : Option (Bool) :=
 cond (Q8 .neq a.Kind b.Kind)
 (some false)
 (cond (Q8 .neq a.N' b.N')
 (some false)
 (cond (Q3o .neq a.Text b.Text)
 (some false)
 (cond (Q8 .neq ((Q0.rows a.Items).length : Int) ((Q0.rows b.Items).length : Int))
 (some false)
 (Zr rz N a b N 0))))
theorem Q06 {rz : Q0 → Q0 → Option (Bool)} (hv1 : ∀ {a} {b} {r}, rz a b = some r → Zp Tryz.prog G1 19 [.agg (Q0.cells a), .agg (Q0.cells b)] (.bool r)) {N} {a} {b} {r} (h : Wy rz N a b = some r) : Zp Tryz.prog G1 19 [.agg (Q0.cells a), .agg (Q0.cells b)] (.bool r) := by
 refine Q4 k19 ?_
 unfold Wy at h
 apply iU h <;> intro h
 ·cases h; exact (.p _)
 ·apply iU h <;> intro h
  ·cases h; exact (.p _)
  ·apply iU h <;> intro h
   ·cases h; exact (.p _)
   ·apply iU h <;> intro h
    ·cases h; exact (.p _)
    ·refine lpC (τ := Int) (fun i22 => (.any :: .any :: .ptr 0 0 :: .ptr 1 0 :: .any :: iI i22 :: a16 (a16 (a8 (a4 (a2 (.any :: []))))) : List AV)) (fun _ => (.cells (iI a.Kind :: iW a.N' :: iS a.Text :: .p (.slice 4 (Q0.rows a.Items)) :: []) :: .cells (iI b.Kind :: iW b.N' :: iS b.Text :: .p (.slice 4 (Q0.rows b.Items)) :: []) :: [] : List AObj)) (fun n0 i22 => Zr rz N a b n0 i22) (0) h (fun i => i) ⟨(rW <| rE rfl <| rE rfl <| rA <| rE rfl <| rX <| rX <| rX <| rX <| rX <| rV <| rW <| rA <| rN), (hE rfl <| hE rfl <| hN), rfl, rfl, (roE rfl <| roE rfl <| roN)⟩ fun n0 i22 h => ?_
     simp only [Zr] at h
     apply iU h <;> intro h
     ·refine Qw ?_
      refine Q0.xR h fun y24 h => ?_
      refine Q0.xR h fun y26 h => ?_
      refine cD h hv1 (.cons q4 (.cons q4 .nil)) fun v28 h => ?_
      apply iU h <;> intro h
      ·cases h; exact (.p _)
      ·show Exists _
       exact ⟨(n0, (IntKind.wrap .i64 (i22 + 1))), h, Nat.lt_succ_self _, (fun i => i), ⟨(rW <| rE rfl <| rE rfl <| rA <| rE rfl <| rX <| rX <| rX <| rX <| rX <| rV <| rW <| rA <| rN), (hE rfl <| hE rfl <| hN), rfl, rfl, (roE rfl <| roE rfl <| roN)⟩⟩
     ·cases h; exact (.p _)
def Zi : Nat → Q0 → Q0 → Option (Bool)
 | 0 => fun _ _ => none
 | N + 1 => Wy (Zi N) N
theorem Ue {N} {a} {b} {r} (h : Zi N a b = some r) : Zp Tryz.prog G1 19 [.agg (Q0.cells a), .agg (Q0.cells b)] (.bool r) := by
 induction N generalizing a b r with
 | zero => simp [Zi] at h
 | succ N ih => exact Q06 (fun h => ih h) h
def Qo (N : Nat) (k1 : Int → Int → Option (Bool)) (l : List Q0) (v79 : List Int) (data147 : Int) (i148 : Int) : Nat → Int → Bool → Int → Option (Bool)
 | 0, _, _, _ => none
 | n + 1, n168, all169, Qiq =>
  cond (Q8 .lss Qiq ((Q0.rows l).length : Int))
  ((idx v79 i148).bind fun y172 =>
  (idx l Qiq).bind fun y174 =>
  (V6 N y172 y174).bind fun v176 =>
  cond all169
  (Qo N k1 l v79 data147 i148 n (IntKind.wrap .i64 (n168 + (v176.1.length : Int))) (Q8 .eql v176.2 0) (IntKind.wrap .i64 (Qiq + 1)))
  (Qo N k1 l v79 data147 i148 n (IntKind.wrap .i64 (n168 + (v176.1.length : Int))) false (IntKind.wrap .i64 (Qiq + 1))))
  (cond all169
  (cond (Q8 .lss data147 0)
  (k1 n168 (IntKind.wrap .i64 (i148 + 1)))
  (cond (Q8 .lss n168 data147)
  (k1 n168 (IntKind.wrap .i64 (i148 + 1)))
  (k1 data147 (IntKind.wrap .i64 (i148 + 1)))))
  (k1 data147 (IntKind.wrap .i64 (i148 + 1))))
def Qc (N : Nat) (l : List Q0) (y6 : Q0) (l54 : List Q0) (v79 : List Int) : Nat → Int → Int → Option (Bool)
 | 0, _, _ => none
 | n + 1, data147, i148 =>
  cond (Q8 .lss i148 ((U2 (cI .i64) v79).length : Int))
  (Qo N (Qc N l y6 l54 v79 n) l v79 data147 i148 N 0 true 0)
  ((Vd N (⟨24, (IntKind.wrap .u64 y6.Kind), [], l54⟩ : Q0) 1).bind fun v182 =>
  cond (Q8 .lss data147 0)
  (some false)
  (cond (Q8 .gtr (IntKind.wrap .i64 (data147 + 2)) 255)
  ((Qp N v182.1 1).bind fun v186 =>
  cond (Q8 .eql v182.2 0)
  (cond (Q8 .eql (v182.1.length : Int) (IntKind.wrap .i64 (data147 + 10)))
  (cond (Q8 .eql v186.2.2 0)
  (cond (Q8 .eql v186.2.1 (v182.1.length : Int))
  ((Zi N v186.1 (⟨24, (IntKind.wrap .u64 y6.Kind), [], l54⟩ : Q0)).bind fun v192 =>
  some v192)
  (some false))
  (some false))
  (some false))
  (some false))
  ((Qp N v182.1 1).bind fun v194 =>
  cond (Q8 .eql v182.2 0)
  (cond (Q8 .eql (v182.1.length : Int) (IntKind.wrap .i64 (data147 + 4)))
  (cond (Q8 .eql v194.2.2 0)
  (cond (Q8 .eql v194.2.1 (v182.1.length : Int))
  ((Zi N v194.1 (⟨24, (IntKind.wrap .u64 y6.Kind), [], l54⟩ : Q0)).bind fun v200 =>
  some v200)
  (some false))
  (some false))
  (some false))
  (some false))))
def Qx (N : Nat) (l : List Q0) (y6 : Q0) : Nat → Int → (List Q0) → Option (Bool)
 | 0, _, _ => none
 | n + 1, i53, l54 =>
  cond (Q8 .lss i53 ((Q0.rows l).length : Int))
  ((idx l i53).bind fun y56 =>
  (idx l 0).bind fun y58 =>
  cond (Q8 .neq y56.Kind y58.Kind)
  (some true)
  ((idx l i53).bind fun y61 =>
  (Qj N y61).bind fun v63 =>
  cond (Q8 .neq v63 0)
  (some true)
  ((idx l i53).bind fun y66 =>
  cond (Q8 .gtr (y66.Text.length : Int) 60)
  (some true)
  ((idx l i53).bind fun y69 =>
  (Xu N y69).bind fun v71 =>
  cond (!v71)
  (some true)
  ((idx l i53).bind fun y74 =>
  cond (Nat.ble ((l54.length + 1 + 4096) * 56) 17592186044416) (Qx N l y6 n (IntKind.wrap .i64 (i53 + 1)) (l54 ++ [y74])) none)))))
  ((idx l 0).bind fun y77 =>
  (W4 N y77.Kind).bind fun v79 =>
  Qc N l y6 l54 v79 N (-1) 0)
def Zq (N : Nat) (l : List Q0) : Option (Bool) :=
 (W6 N).bind fun v1 =>
 cond (!v1)
 (some false)
 (cond (Q8 .gtr ((Q0.rows l).length : Int) 30)
 (some true)
 (cond (Q8 .eql ((Q0.rows l).length : Int) 0)
 (some true)
 ((idx l 0).bind fun y6 =>
 Qx N l y6 N 0 [])))
theorem J4 {N} {l} {r} (h : Zq N l = some r) : Zp Tryz.prog G1 3 [.slice 4 (Q0.rows l)] (.bool r) := by
 refine Q4 k3 ?_
 unfold Zq at h
 refine cP h Q12 p0 fun v1 h => ?_
 apply iU h <;> intro h
 ·cases h; exact (.p _)
 ·apply iU h <;> intro h
  ·cases h; exact (.p _)
  ·apply iU h <;> intro h
   ·cases h; exact (.p _)
   ·refine Q0.xR h fun y6 h => ?_
    refine lpC (τ := Int × (List Q0)) (fun ⟨i53, _⟩ => (.p (.slice 4 (Q0.rows l)) :: .any :: .any :: .ptr 0 0 :: iI (-1) :: iI i53 :: a16 (a16 (a16 (a16 (a16 (a16 (a16 (a16 (a16 (a16 (a8 (a2 (.any :: [])))))))))))) : List AV)) (fun ⟨_, l54⟩ => (.cells (iI 24 :: iW (IntKind.wrap .u64 y6.Kind) :: iS [] :: .slice 4 1 0 l54.length :: []) :: .cells (Xq Q0.cells l54) :: [] : List AObj)) (fun n0 ⟨i53, l54⟩ => Qx N l y6 n0 i53 l54) (0, []) h (fun i => i) ⟨(rE rfl <| rW <| rE rfl <| rE rfl <| rE rfl <| rX <| rX <| rX <| rX <| rX <| rX <| rX <| rX <| rX <| rX <| rX <| rX <| rX <| rX <| rX <| rX <| rX <| rX <| rX <| rX <| rX <| rW <| rA <| rN), (hC rfl (rE rfl <| rE rfl <| rE rfl <| rS <| rN) <| hV lb <| hN), rfl, rfl, (roE rfl <| roE (Qb _ _ _) <| roN)⟩ fun n0 ⟨i53, l54⟩ h => ?_
    simp only [Qx] at h
    apply iU h <;> intro h
    ·refine Qw ?_
     refine Q0.xR h fun y56 h => ?_
     refine Q0.xR h fun y58 h => ?_
     apply iU h <;> intro h
     ·cases h; exact (.p _)
     ·refine Q0.xR h fun y61 h => ?_
      refine cD h Z9 (.cons q4 .nil) fun v63 h => ?_
      apply iU h <;> intro h
      ·cases h; exact (.p _)
      ·refine Q0.xR h fun y66 h => ?_
       apply iU h <;> intro h
       ·cases h; exact (.p _)
       ·refine Q0.xR h fun y69 h => ?_
        refine cD h Q0m (.cons q4 .nil) fun v71 h => ?_
        apply iU h <;> intro h
        ·cases h; exact (.p _)
        ·refine Qw ?_
         refine Q0.xR h fun y74 h => ?_
         obtain ⟨hk76, h⟩ := Qgg h
         refine Q72 (Gx (c := Q0.cells) (e := 4) (fun _ => rfl) (by simp) hk76) ?_
         refine Q2n (c := Q0.cells) [y74] rfl ?_
         show Exists _
         exact ⟨(n0, (IntKind.wrap .i64 (i53 + 1)), (l54 ++ [y74])), h, Nat.lt_succ_self _, (rho [0, 3]), ⟨(rE rfl <| rW <| rE rfl <| rE rfl <| rE rfl <| rX <| rX <| rX <| rX <| rX <| rX <| rX <| rX <| rX <| rX <| rX <| rX <| rX <| rX <| rX <| rX <| rX <| rX <| rX <| rX <| rX <| rW <| rA <| rN), (hC rfl (rE rfl <| rE rfl <| rE rfl <| rL (by simp) rfl <| rN) <| hO rfl <| hN), rfl, rfl, (roE rfl <| roE (Qb _ _ _) <| roN)⟩⟩
    ·refine Q0.xR h fun y77 h => ?_
     refine cP h Q0q p1 fun v79 h => ?_
     refine lpC (τ := Int × Int) (fun ⟨data147, i148⟩ => (.p (.slice 4 (Q0.rows l)) :: .any :: .any :: .ptr 0 0 :: iI data147 :: .any :: .p (.slice 1 (U2 (cI .i64) v79)) :: iI i148 :: a16 (a16 (a16 (a16 (a16 (a16 (a16 (a16 (a16 (a16 (a8 (.any :: []))))))))))) : List AV)) (fun ⟨_, _⟩ => (.cells (iI 24 :: iW (IntKind.wrap .u64 y6.Kind) :: iS [] :: .slice 4 1 0 l54.length :: []) :: .cells (Xq Q0.cells l54) :: [] : List AObj)) (fun n1 ⟨data147, i148⟩ => Qc N l y6 l54 v79 n1 data147 i148) ((-1), 0) h (fun i => i) ⟨(rE rfl <| rW <| rE rfl <| rE rfl <| rA <| rE rfl <| rE rfl <| rX <| rX <| rX <| rX <| rX <| rX <| rX <| rX <| rX <| rX <| rX <| rX <| rX <| rX <| rX <| rX <| rX <| rX <| rX <| rX <| rX <| rA <| rN), (hE rfl <| hO rfl <| hN), rfl, rfl, (roE rfl <| roE (Qb _ _ _) <| roN)⟩ fun n1 ⟨data147, i148⟩ h => ?_
     simp only [Qc] at h
     apply iU h <;> intro h
     ·refine lpC (τ := Int × Bool × Int) (fun ⟨n168, all169, Qiq⟩ => (.p (.slice 4 (Q0.rows l)) :: .any :: .any :: .ptr 0 0 :: iI data147 :: .any :: .p (.slice 1 (U2 (cI .i64) v79)) :: iI i148 :: iI n168 :: .p (.bool all169) :: iI Qiq :: a16 (a16 (a16 (a16 (a16 (a16 (a16 (a16 (a16 (a16 (a4 (a2 ([])))))))))))) : List AV)) (fun ⟨_, _, _⟩ => (.cells (iI 24 :: iW (IntKind.wrap .u64 y6.Kind) :: iS [] :: .slice 4 1 0 l54.length :: []) :: .cells (Xq Q0.cells l54) :: [] : List AObj)) (fun n2 ⟨n168, all169, Qiq⟩ => Qo N (Qc N l y6 l54 v79 n1) l v79 data147 i148 n2 n168 all169 Qiq) (0, true, 0) h (fun i => i) ⟨(rE rfl <| rW <| rE rfl <| rE rfl <| rA <| rE rfl <| rE rfl <| rE rfl <| rE rfl <| rE rfl <| rX <| rX <| rX <| rX <| rX <| rX <| rX <| rX <| rX <| rX <| rX <| rX <| rX <| rX <| rX <| rX <| rX <| rX <| rX <| rX <| rV <| rW <| rN), (hE rfl <| hO rfl <| hN), rfl, rfl, (roE rfl <| roE (Qb _ _ _) <| roN)⟩ fun n2 ⟨n168, all169, Qiq⟩ h => ?_
      simp only [Qo] at h
      apply iU h <;> intro h
      ·refine Qw ?_
       refine xR h fun y172 h => ?_
       refine Q0.xR h fun y174 h => ?_
       refine cD h Q2d (.cons (.p _) (.cons q4 .nil)) fun v176 h => ?_
       apply iU h <;> intro h
       ·show Exists _
        exact ⟨(n2, (IntKind.wrap .i64 (n168 + (v176.1.length : Int))), (Q8 .eql v176.2 0), (IntKind.wrap .i64 (Qiq + 1))), h, Nat.lt_succ_self _, (fun i => i), ⟨(rE rfl <| rW <| rE rfl <| rE rfl <| rA <| rE rfl <| rE rfl <| rE rfl <| rE rfl <| rE rfl <| rX <| rX <| rX <| rX <| rX <| rX <| rX <| rX <| rX <| rX <| rX <| rX <| rX <| rX <| rX <| rX <| rX <| rX <| rX <| rX <| rV <| rW <| rN), (hE rfl <| hO rfl <| hN), rfl, rfl, (roE rfl <| roE (Qb _ _ _) <| roN)⟩⟩
       ·show Exists _
        exact ⟨(n2, (IntKind.wrap .i64 (n168 + (v176.1.length : Int))), false, (IntKind.wrap .i64 (Qiq + 1))), h, Nat.lt_succ_self _, (fun i => i), ⟨(rE rfl <| rW <| rE rfl <| rE rfl <| rA <| rE rfl <| rE rfl <| rE rfl <| rE rfl <| rE rfl <| rX <| rX <| rX <| rX <| rX <| rX <| rX <| rX <| rX <| rX <| rX <| rX <| rX <| rX <| rX <| rX <| rX <| rX <| rX <| rX <| rV <| rW <| rN), (hE rfl <| hO rfl <| hN), rfl, rfl, (roE rfl <| roE (Qb _ _ _) <| roN)⟩⟩
      ·apply iU h <;> intro h
       ·apply iU h <;> intro h
        ·show Exists _
         exact ⟨(n1, n168, (IntKind.wrap .i64 (i148 + 1))), h, Nat.lt_succ_self _, (fun i => i), ⟨(rE rfl <| rW <| rE rfl <| rE rfl <| rA <| rE rfl <| rE rfl <| rX <| rX <| rX <| rX <| rX <| rX <| rX <| rX <| rX <| rX <| rX <| rX <| rX <| rX <| rX <| rX <| rX <| rX <| rX <| rX <| rX <| rA <| rN), (hE rfl <| hO rfl <| hN), rfl, rfl, (roE rfl <| roE (Qb _ _ _) <| roN)⟩⟩
        ·apply iU h <;> intro h
         ·show Exists _
          exact ⟨(n1, n168, (IntKind.wrap .i64 (i148 + 1))), h, Nat.lt_succ_self _, (fun i => i), ⟨(rE rfl <| rW <| rE rfl <| rE rfl <| rA <| rE rfl <| rE rfl <| rX <| rX <| rX <| rX <| rX <| rX <| rX <| rX <| rX <| rX <| rX <| rX <| rX <| rX <| rX <| rX <| rX <| rX <| rX <| rX <| rX <| rA <| rN), (hE rfl <| hO rfl <| hN), rfl, rfl, (roE rfl <| roE (Qb _ _ _) <| roN)⟩⟩
         ·show Exists _
          exact ⟨(n1, data147, (IntKind.wrap .i64 (i148 + 1))), h, Nat.lt_succ_self _, (fun i => i), ⟨(rE rfl <| rW <| rE rfl <| rE rfl <| rA <| rE rfl <| rE rfl <| rX <| rX <| rX <| rX <| rX <| rX <| rX <| rX <| rX <| rX <| rX <| rX <| rX <| rX <| rX <| rX <| rX <| rX <| rX <| rX <| rX <| rA <| rN), (hE rfl <| hO rfl <| hN), rfl, rfl, (roE rfl <| roE (Qb _ _ _) <| roN)⟩⟩
       ·show Exists _
        exact ⟨(n1, data147, (IntKind.wrap .i64 (i148 + 1))), h, Nat.lt_succ_self _, (fun i => i), ⟨(rE rfl <| rW <| rE rfl <| rE rfl <| rA <| rE rfl <| rE rfl <| rX <| rX <| rX <| rX <| rX <| rX <| rX <| rX <| rX <| rX <| rX <| rX <| rX <| rX <| rX <| rX <| rX <| rX <| rX <| rX <| rX <| rA <| rN), (hE rfl <| hO rfl <| hN), rfl, rfl, (roE rfl <| roE (Qb _ _ _) <| roN)⟩⟩
     ·refine cK h Q00 (.cons (Frz.agg' (.cons (.p _) (.cons (.p _) (.cons (.p _) (.cons (Q0.frz_own (l := l54) rfl trivial (by simp)) .nil))))) p1) fun v182 h => ?_
      apply iU h <;> intro h
      ·cases h; exact (.p _)
      ·apply iU h <;> intro h
       ·refine cP h J3 p2 fun v186 h => ?_
        apply iU h <;> intro h
        ·apply iU h <;> intro h
         ·apply iU h <;> intro h
          ·apply iU h <;> intro h
           ·refine cK h Ue (.cons q4 (.cons (Frz.agg' (.cons (.p _) (.cons (.p _) (.cons (.p _) (.cons (Q0.frz_own (l := l54) rfl trivial (by simp)) .nil))))) .nil)) fun v192 h => ?_
            cases h; exact (.p _)
           ·cases h; exact (.p _)
          ·cases h; exact (.p _)
         ·cases h; exact (.p _)
        ·cases h; exact (.p _)
       ·refine cP h J3 p2 fun v194 h => ?_
        apply iU h <;> intro h
        ·apply iU h <;> intro h
         ·apply iU h <;> intro h
          ·apply iU h <;> intro h
           ·refine cK h Ue (.cons q4 (.cons (Frz.agg' (.cons (.p _) (.cons (.p _) (.cons (.p _) (.cons (Q0.frz_own (l := l54) rfl trivial (by simp)) .nil))))) .nil)) fun v200 h => ?_
            cases h; exact (.p _)
           ·cases h; exact (.p _)
          ·cases h; exact (.p _)
         ·cases h; exact (.p _)
        ·cases h; exact (.p _)
end
end
end Go.Av
