/- The law. Part of a proof of a given statement: for every input the law returns true and the arguments read as before; no condition beyond the given row. -/
import Derived.Test.YtkemhhfbpniioaaGreatDoorLiftF1
namespace Go.Av
noncomputable section
open Go.Proofs
set_option maxRecDepth 100000
set_option maxHeartbeats 4000000
attribute [local irreducible] U4 Xq Q6i Q6x Q5 Q22 Qc5
section
def X6 (R_polyglotref17_Read : (List UInt8) → Int → Option (Q0 × Int × Int)) (R_polyglotref17_Data : Int → (List UInt8) → Int → Option (Q0 × Int × Int)) (R_polyglotref17_sized : Qd → (List UInt8) → Int → Option (Q0 × Int × Int)) (R_polyglotref17_next : Int → (List UInt8) → Int → Option (Q0 × Int × Int)) (_N : Nat) (s_0 : List UInt8) (most : Int) : Option (Q0 × Int × Int) :=
 cond (Q5 .lss most 0)
 (some ((⟨0, 0, [], []⟩ : Q0), 0, 2))
 (cond (Q5 .gtr most 32)
 (some ((⟨0, 0, [], []⟩ : Q0), 0, 2))
 (cond (Q22 .eql s_0 [])
 (some ((⟨0, 0, [], []⟩ : Q0), 0, 3))
 ((idx s_0 0).bind fun b4 =>
 cond (Nat.ble 1 s_0.length && Nat.ble s_0.length s_0.length) ((R_polyglotref17_Data (IntKind.wrap .i64 (b4.toNat : Int)) ((s_0.take s_0.length).drop 1) most).bind fun v7 =>
 cond (Q5 .neq v7.2.2 0)
 (some ((⟨0, 0, [], []⟩ : Q0), 0, v7.2.2))
 (some (v7.1, (IntKind.wrap .i64 (v7.2.1 + 1)), 0))) none)))
theorem Q2f {R_polyglotref17_Read : (List UInt8) → Int → Option (Q0 × Int × Int)} {R_polyglotref17_Data : Int → (List UInt8) → Int → Option (Q0 × Int × Int)} {R_polyglotref17_sized : Qd → (List UInt8) → Int → Option (Q0 × Int × Int)} {R_polyglotref17_next : Int → (List UInt8) → Int → Option (Q0 × Int × Int)} (hR_polyglotref17_Read : ∀ {s_0} {most} {r}, R_polyglotref17_Read s_0 most = some r → Zq Tryz.prog G1 18 [.str s_0, .int .i64 most] (.tuple [.agg (Q0.cells r.1), .int .i64 r.2.1, .int .i64 r.2.2])) (hR_polyglotref17_Data : ∀ {code} {s_1} {most} {r}, R_polyglotref17_Data code s_1 most = some r → Zq Tryz.prog G1 65 [.int .i64 code, .str s_1, .int .i64 most] (.tuple [.agg (Q0.cells r.1), .int .i64 r.2.1, .int .i64 r.2.2])) (hR_polyglotref17_sized : ∀ {c} {s_1} {most} {r}, R_polyglotref17_sized c s_1 most = some r → Zq Tryz.prog G1 98 [.agg (Qd.cells c), .str s_1, .int .i64 most] (.tuple [.agg (Q0.cells r.1), .int .i64 r.2.1, .int .i64 r.2.2])) (hR_polyglotref17_next : ∀ {code} {s_1} {most} {r}, R_polyglotref17_next code s_1 most = some r → Zq Tryz.prog G1 120 [.int .i64 code, .str s_1, .int .i64 most] (.tuple [.agg (Q0.cells r.1), .int .i64 r.2.1, .int .i64 r.2.2])) {N} {s_0} {most} {r} (h : X6 R_polyglotref17_Read R_polyglotref17_Data R_polyglotref17_sized R_polyglotref17_next N s_0 most = some r) : Zq Tryz.prog G1 18 [.str s_0, .int .i64 most] (.tuple [.agg (Q0.cells r.1), .int .i64 r.2.1, .int .i64 r.2.2]) := by
 refine Q4 k18 ?_
 unfold X6 at h
 apply iU h <;> intro h
 ·obtain rfl := Qb h; exact (Frz.tuple' (.cons q4n p2))
 ·apply iU h <;> intro h
  ·obtain rfl := Qb h; exact (Frz.tuple' (.cons q4n p2))
  ·apply iU h <;> intro h
   ·obtain rfl := Qb h; exact (Frz.tuple' (.cons q4n p2))
   ·refine Qo ?_
    refine xB h fun b4 h => ?_
    refine kU h fun h => ?_
    refine cD h hR_polyglotref17_Data p3 fun v7 h => ?_
    apply iU h <;> intro h
    ·obtain rfl := Qb h; exact (Frz.tuple' (.cons q4n p2))
    ·obtain rfl := Qb h; exact (Frz.tuple' (.cons q4 p2))
def X5 (R_polyglotref17_Read : (List UInt8) → Int → Option (Q0 × Int × Int)) (R_polyglotref17_Data : Int → (List UInt8) → Int → Option (Q0 × Int × Int)) (R_polyglotref17_sized : Qd → (List UInt8) → Int → Option (Q0 × Int × Int)) (R_polyglotref17_next : Int → (List UInt8) → Int → Option (Q0 × Int × Int)) (N : Nat) (code : Int) (s_1 : List UInt8) (most : Int) : Option (Q0 × Int × Int) :=
 cond (Q5 .lss most 0)
 (some ((⟨0, 0, [], []⟩ : Q0), 0, 2))
 (cond (Q5 .gtr most 32)
 (some ((⟨0, 0, [], []⟩ : Q0), 0, 2))
 ((Xb N code).bind fun v3 =>
 cond (!v3.2)
 (some ((⟨0, 0, [], []⟩ : Q0), 0, 8))
 (cond (!v3.1.Items)
 ((Vn N code s_1).bind fun v7 =>
 some (v7.1, v7.2.1, v7.2.2))
 (cond (Q5 .eql most 0)
 (some ((⟨0, 0, [], []⟩ : Q0), 0, 14))
 (cond v3.1.Sized
 ((R_polyglotref17_sized v3.1 s_1 most).bind fun v11 =>
 some (v11.1, v11.2.1, v11.2.2))
 (cond (Q5 .eql v3.1.Kind 22)
 (some ((⟨22, 0, [], []⟩ : Q0), 0, 0))
 ((R_polyglotref17_Read s_1 (IntKind.wrap .i64 (most - 1))).bind fun v14 =>
 cond (Q5 .neq v14.2.2 0)
 (some ((⟨0, 0, [], []⟩ : Q0), 0, v14.2.2))
 (cond (decide (0 ≤ v14.2.1)) (cond (Nat.ble v14.2.1.toNat s_1.length && Nat.ble s_1.length s_1.length) ((R_polyglotref17_Read ((s_1.take s_1.length).drop v14.2.1.toNat) (IntKind.wrap .i64 (most - 1))).bind fun v19 =>
 cond (Q5 .neq v19.2.2 0)
 (some ((⟨0, 0, [], []⟩ : Q0), 0, v19.2.2))
 (some ((⟨25, 0, [], [v14.1, v19.1]⟩ : Q0), (IntKind.wrap .i64 (v14.2.1 + v19.2.1)), 0))) none) none))))))))
theorem Q2k {R_polyglotref17_Read : (List UInt8) → Int → Option (Q0 × Int × Int)} {R_polyglotref17_Data : Int → (List UInt8) → Int → Option (Q0 × Int × Int)} {R_polyglotref17_sized : Qd → (List UInt8) → Int → Option (Q0 × Int × Int)} {R_polyglotref17_next : Int → (List UInt8) → Int → Option (Q0 × Int × Int)} (hR_polyglotref17_Read : ∀ {s_0} {most} {r}, R_polyglotref17_Read s_0 most = some r → Zq Tryz.prog G1 18 [.str s_0, .int .i64 most] (.tuple [.agg (Q0.cells r.1), .int .i64 r.2.1, .int .i64 r.2.2])) (hR_polyglotref17_Data : ∀ {code} {s_1} {most} {r}, R_polyglotref17_Data code s_1 most = some r → Zq Tryz.prog G1 65 [.int .i64 code, .str s_1, .int .i64 most] (.tuple [.agg (Q0.cells r.1), .int .i64 r.2.1, .int .i64 r.2.2])) (hR_polyglotref17_sized : ∀ {c} {s_1} {most} {r}, R_polyglotref17_sized c s_1 most = some r → Zq Tryz.prog G1 98 [.agg (Qd.cells c), .str s_1, .int .i64 most] (.tuple [.agg (Q0.cells r.1), .int .i64 r.2.1, .int .i64 r.2.2])) (hR_polyglotref17_next : ∀ {code} {s_1} {most} {r}, R_polyglotref17_next code s_1 most = some r → Zq Tryz.prog G1 120 [.int .i64 code, .str s_1, .int .i64 most] (.tuple [.agg (Q0.cells r.1), .int .i64 r.2.1, .int .i64 r.2.2])) {N} {code} {s_1} {most} {r} (h : X5 R_polyglotref17_Read R_polyglotref17_Data R_polyglotref17_sized R_polyglotref17_next N code s_1 most = some r) : Zq Tryz.prog G1 65 [.int .i64 code, .str s_1, .int .i64 most] (.tuple [.agg (Q0.cells r.1), .int .i64 r.2.1, .int .i64 r.2.2]) := by
 refine Q4 k65 ?_
 unfold X5 at h
 apply iU h <;> intro h
 ·obtain rfl := Qb h; exact (Frz.tuple' (.cons q4n p2))
 ·apply iU h <;> intro h
  ·obtain rfl := Qb h; exact (Frz.tuple' (.cons q4n p2))
  ·refine cP h Vw p1 fun v3 h => ?_
   apply iU h <;> intro h
   ·obtain rfl := Qb h; exact (Frz.tuple' (.cons q4n p2))
   ·apply iU h <;> intro h
    ·refine cP h Q31 p2 fun v7 h => ?_
     obtain rfl := Qb h; exact (Frz.tuple' (.cons q4 p2))
    ·apply iU h <;> intro h
     ·obtain rfl := Qb h; exact (Frz.tuple' (.cons q4n p2))
     ·apply iU h <;> intro h
      ·refine cP h hR_polyglotref17_sized (.cons (Frz.agg' p5) p2) fun v11 h => ?_
       obtain rfl := Qb h; exact (Frz.tuple' (.cons q4 p2))
      ·apply iU h <;> intro h
       ·obtain rfl := Qb h; exact (Frz.tuple' (.cons q4n p2))
       ·refine cP h hR_polyglotref17_Read p2 fun v14 h => ?_
        apply iU h <;> intro h
        ·obtain rfl := Qb h; exact (Frz.tuple' (.cons q4n p2))
        ·refine kU h fun h => ?_
         refine kU h fun h => ?_
         refine cP h hR_polyglotref17_Read p2 fun v19 h => ?_
         apply iU h <;> intro h
         ·obtain rfl := Qb h; exact (Frz.tuple' (.cons q4n p2))
         ·obtain rfl := Qb h; exact (Frz.tuple' (.cons (Frz.agg' (.cons (.p _) (.cons (.p _) (.cons (.p _) (.cons (Q0.frz_own (l := [v14.1, v19.1]) rfl trivial (by simp)) .nil))))) p2))
def V3 (R_polyglotref17_next : Int → (List UInt8) → Int → Option (Q0 × Int × Int)) (N : Nat) (c : Qd) (most : Int) (v4 : Int) (v11 : Int) (b19 : UInt8) (v21 : Qd × Bool) : Nat → (List UInt8) → Int → (List Q0) → Option (Q0 × Int × Int)
 | 0, _, _, _ => none
 | n + 1, body44, i45, l46 =>
  cond (Q5 .lss i45 v11)
  ((R_polyglotref17_next (IntKind.wrap .i64 (b19.toNat : Int)) body44 (IntKind.wrap .i64 (most - 1))).bind fun v48 =>
  cond (Q5 .eql v48.2.2 3)
  (some ((⟨0, 0, [], []⟩ : Q0), 0, 5))
  (cond (Q5 .neq v48.2.2 0)
  (some ((⟨0, 0, [], []⟩ : Q0), 0, v48.2.2))
  (cond (Nat.ble ((l46.length + 1 + 4096) * 56) 17592186044416) (cond (decide (0 ≤ v48.2.1)) (cond (Nat.ble v48.2.1.toNat body44.length && Nat.ble body44.length body44.length) (V3 R_polyglotref17_next N c most v4 v11 b19 v21 n ((body44.take body44.length).drop v48.2.1.toNat) (IntKind.wrap .u64 (i45 + 1)) (l46 ++ [v48.1])) none) none) none)))
  (cond (Q22 .neq body44 [])
  (some ((⟨0, 0, [], []⟩ : Q0), 0, 5))
  ((Yv N l46).bind fun v56 =>
  cond v56
  (some ((⟨0, 0, [], []⟩ : Q0), 0, 16))
  (some ((⟨c.Kind, (IntKind.wrap .u64 v21.1.Kind), [], l46⟩ : Q0), (IntKind.wrap .i64 (c.Width + (IntKind.wrap .i64 v4))), 0))))
def Xw (R_polyglotref17_next : Int → (List UInt8) → Int → Option (Q0 × Int × Int)) (N : Nat) (c : Qd) (most : Int) (v4 : Int) (v11 : Int) : Nat → (List UInt8) → Int → (List Q0) → Option (Q0 × Int × Int)
 | 0, _, _, _ => none
 | n + 1, body77, i78, l79 =>
  cond (Q5 .lss i78 v11)
  ((R_polyglotref17_next (-1) body77 (IntKind.wrap .i64 (most - 1))).bind fun v81 =>
  cond (Q5 .eql v81.2.2 3)
  (some ((⟨0, 0, [], []⟩ : Q0), 0, 5))
  (cond (Q5 .neq v81.2.2 0)
  (some ((⟨0, 0, [], []⟩ : Q0), 0, v81.2.2))
  (cond (Nat.ble ((l79.length + 1 + 4096) * 56) 17592186044416) (cond (decide (0 ≤ v81.2.1)) (cond (Nat.ble v81.2.1.toNat body77.length && Nat.ble body77.length body77.length) (Xw R_polyglotref17_next N c most v4 v11 n ((body77.take body77.length).drop v81.2.1.toNat) (IntKind.wrap .u64 (i78 + 1)) (l79 ++ [v81.1])) none) none) none)))
  (cond (Q22 .neq body77 [])
  (some ((⟨0, 0, [], []⟩ : Q0), 0, 5))
  ((Yv N l79).bind fun v89 =>
  cond v89
  (some ((⟨0, 0, [], []⟩ : Q0), 0, 16))
  (some ((⟨c.Kind, 0, [], l79⟩ : Q0), (IntKind.wrap .i64 (c.Width + (IntKind.wrap .i64 v4))), 0))))
def Xr (R_polyglotref17_next : Int → (List UInt8) → Int → Option (Q0 × Int × Int)) (N : Nat) (c : Qd) (most : Int) (v4 : Int) (v11 : Int) (b94 : UInt8) (v96 : Qd × Bool) : Nat → (List UInt8) → Int → (List Q0) → Option (Q0 × Int × Int)
 | 0, _, _, _ => none
 | n + 1, body119, i120, l121 =>
  cond (Q5 .lss i120 v11)
  ((R_polyglotref17_next (IntKind.wrap .i64 (b94.toNat : Int)) body119 (IntKind.wrap .i64 (most - 1))).bind fun v123 =>
  cond (Q5 .eql v123.2.2 3)
  (some ((⟨0, 0, [], []⟩ : Q0), 0, 5))
  (cond (Q5 .neq v123.2.2 0)
  (some ((⟨0, 0, [], []⟩ : Q0), 0, v123.2.2))
  (cond (Nat.ble ((l121.length + 1 + 4096) * 56) 17592186044416) (cond (decide (0 ≤ v123.2.1)) (cond (Nat.ble v123.2.1.toNat body119.length && Nat.ble body119.length body119.length) (Xr R_polyglotref17_next N c most v4 v11 b94 v96 n ((body119.take body119.length).drop v123.2.1.toNat) (IntKind.wrap .u64 (i120 + 1)) (l121 ++ [v123.1])) none) none) none)))
  (cond (Q22 .neq body119 [])
  (some ((⟨0, 0, [], []⟩ : Q0), 0, 5))
  (some ((⟨c.Kind, (IntKind.wrap .u64 v96.1.Kind), [], l121⟩ : Q0), (IntKind.wrap .i64 (c.Width + (IntKind.wrap .i64 v4))), 0)))
def Xt (R_polyglotref17_next : Int → (List UInt8) → Int → Option (Q0 × Int × Int)) (N : Nat) (c : Qd) (most : Int) (v4 : Int) (v11 : Int) : Nat → (List UInt8) → Int → (List Q0) → Option (Q0 × Int × Int)
 | 0, _, _, _ => none
 | n + 1, body149, i150, l151 =>
  cond (Q5 .lss i150 v11)
  ((R_polyglotref17_next (-1) body149 (IntKind.wrap .i64 (most - 1))).bind fun v153 =>
  cond (Q5 .eql v153.2.2 3)
  (some ((⟨0, 0, [], []⟩ : Q0), 0, 5))
  (cond (Q5 .neq v153.2.2 0)
  (some ((⟨0, 0, [], []⟩ : Q0), 0, v153.2.2))
  (cond (Nat.ble ((l151.length + 1 + 4096) * 56) 17592186044416) (cond (decide (0 ≤ v153.2.1)) (cond (Nat.ble v153.2.1.toNat body149.length && Nat.ble body149.length body149.length) (Xt R_polyglotref17_next N c most v4 v11 n ((body149.take body149.length).drop v153.2.1.toNat) (IntKind.wrap .u64 (i150 + 1)) (l151 ++ [v153.1])) none) none) none)))
  (cond (Q22 .neq body149 [])
  (some ((⟨0, 0, [], []⟩ : Q0), 0, 5))
  (some ((⟨c.Kind, 0, [], l151⟩ : Q0), (IntKind.wrap .i64 (c.Width + (IntKind.wrap .i64 v4))), 0)))
def Xo (R_polyglotref17_Read : (List UInt8) → Int → Option (Q0 × Int × Int)) (R_polyglotref17_Data : Int → (List UInt8) → Int → Option (Q0 × Int × Int)) (R_polyglotref17_sized : Qd → (List UInt8) → Int → Option (Q0 × Int × Int)) (R_polyglotref17_next : Int → (List UInt8) → Int → Option (Q0 × Int × Int)) (N : Nat) (c : Qd) (s_1 : List UInt8) (most : Int) : Option (Q0 × Int × Int) :=
 cond (Q5 .lss (s_1.length : Int) c.Width)
 (some ((⟨0, 0, [], []⟩ : Q0), 0, 3))
 (cond (decide (0 ≤ c.Width)) (cond (Nat.ble 0 c.Width.toNat && Nat.ble c.Width.toNat s_1.length) ((Zy N ((s_1.take c.Width.toNat).drop 0)).bind fun v4 =>
 cond (Q5 .gtr v4 (IntKind.wrap .u64 (IntKind.wrap .i64 ((s_1.length : Int) - c.Width))))
 (some ((⟨0, 0, [], []⟩ : Q0), 0, 3))
 (cond (decide (0 ≤ (IntKind.wrap .i64 (c.Width + (IntKind.wrap .i64 v4))))) (cond (Nat.ble c.Width.toNat ((IntKind.wrap .i64 (c.Width + (IntKind.wrap .i64 v4))).toNat) && Nat.ble ((IntKind.wrap .i64 (c.Width + (IntKind.wrap .i64 v4))).toNat) s_1.length) (cond (Q5 .lss (((s_1.take ((IntKind.wrap .i64 (c.Width + (IntKind.wrap .i64 v4))).toNat)).drop c.Width.toNat).length : Int) c.Width)
 (some ((⟨0, 0, [], []⟩ : Q0), 0, 5))
 (cond (Nat.ble 0 c.Width.toNat && Nat.ble c.Width.toNat ((s_1.take ((IntKind.wrap .i64 (c.Width + (IntKind.wrap .i64 v4))).toNat)).drop c.Width.toNat).length) ((Zy N ((((s_1.take ((IntKind.wrap .i64 (c.Width + (IntKind.wrap .i64 v4))).toNat)).drop c.Width.toNat).take c.Width.toNat).drop 0)).bind fun v11 =>
 cond (Nat.ble c.Width.toNat (((s_1.take ((IntKind.wrap .i64 (c.Width + (IntKind.wrap .i64 v4))).toNat)).drop c.Width.toNat).length) && Nat.ble (((s_1.take ((IntKind.wrap .i64 (c.Width + (IntKind.wrap .i64 v4))).toNat)).drop c.Width.toNat).length) ((s_1.take ((IntKind.wrap .i64 (c.Width + (IntKind.wrap .i64 v4))).toNat)).drop c.Width.toNat).length) (cond (Q5 .gtr v11 1000)
 (some ((⟨0, 0, [], []⟩ : Q0), 0, 4))
 (cond (Q5 .eql c.Kind 23)
 (cond (Q5 .neq ((v11 : Int).tmod 2) 0)
 (some ((⟨0, 0, [], []⟩ : Q0), 0, 5))
 (cond (Q5 .eql c.Kind 24)
 (cond (Q22 .eql ((((s_1.take ((IntKind.wrap .i64 (c.Width + (IntKind.wrap .i64 v4))).toNat)).drop c.Width.toNat).take (((s_1.take ((IntKind.wrap .i64 (c.Width + (IntKind.wrap .i64 v4))).toNat)).drop c.Width.toNat).length)).drop c.Width.toNat) [])
 (some ((⟨0, 0, [], []⟩ : Q0), 0, 5))
 ((idx ((((s_1.take ((IntKind.wrap .i64 (c.Width + (IntKind.wrap .i64 v4))).toNat)).drop c.Width.toNat).take (((s_1.take ((IntKind.wrap .i64 (c.Width + (IntKind.wrap .i64 v4))).toNat)).drop c.Width.toNat).length)).drop c.Width.toNat) 0).bind fun b19 =>
 (Xb N (IntKind.wrap .i64 (b19.toNat : Int))).bind fun v21 =>
 cond (!v21.2)
 (some ((⟨0, 0, [], []⟩ : Q0), 0, 8))
 (cond (Q5 .eql (IntKind.wrap .i64 (b19.toNat : Int)) 0)
 (some ((⟨0, 0, [], []⟩ : Q0), 0, 8))
 (cond (Nat.ble 1 (((((s_1.take ((IntKind.wrap .i64 (c.Width + (IntKind.wrap .i64 v4))).toNat)).drop c.Width.toNat).take (((s_1.take ((IntKind.wrap .i64 (c.Width + (IntKind.wrap .i64 v4))).toNat)).drop c.Width.toNat).length)).drop c.Width.toNat).length) && Nat.ble (((((s_1.take ((IntKind.wrap .i64 (c.Width + (IntKind.wrap .i64 v4))).toNat)).drop c.Width.toNat).take (((s_1.take ((IntKind.wrap .i64 (c.Width + (IntKind.wrap .i64 v4))).toNat)).drop c.Width.toNat).length)).drop c.Width.toNat).length) ((((s_1.take ((IntKind.wrap .i64 (c.Width + (IntKind.wrap .i64 v4))).toNat)).drop c.Width.toNat).take (((s_1.take ((IntKind.wrap .i64 (c.Width + (IntKind.wrap .i64 v4))).toNat)).drop c.Width.toNat).length)).drop c.Width.toNat).length) (V3 R_polyglotref17_next N c most v4 v11 b19 v21 N ((((((s_1.take ((IntKind.wrap .i64 (c.Width + (IntKind.wrap .i64 v4))).toNat)).drop c.Width.toNat).take (((s_1.take ((IntKind.wrap .i64 (c.Width + (IntKind.wrap .i64 v4))).toNat)).drop c.Width.toNat).length)).drop c.Width.toNat).take (((((s_1.take ((IntKind.wrap .i64 (c.Width + (IntKind.wrap .i64 v4))).toNat)).drop c.Width.toNat).take (((s_1.take ((IntKind.wrap .i64 (c.Width + (IntKind.wrap .i64 v4))).toNat)).drop c.Width.toNat).length)).drop c.Width.toNat).length)).drop 1) 0 []) none))))
 (Xw R_polyglotref17_next N c most v4 v11 N ((((s_1.take ((IntKind.wrap .i64 (c.Width + (IntKind.wrap .i64 v4))).toNat)).drop c.Width.toNat).take (((s_1.take ((IntKind.wrap .i64 (c.Width + (IntKind.wrap .i64 v4))).toNat)).drop c.Width.toNat).length)).drop c.Width.toNat) 0 [])))
 (cond (Q5 .eql c.Kind 24)
 (cond (Q22 .eql ((((s_1.take ((IntKind.wrap .i64 (c.Width + (IntKind.wrap .i64 v4))).toNat)).drop c.Width.toNat).take (((s_1.take ((IntKind.wrap .i64 (c.Width + (IntKind.wrap .i64 v4))).toNat)).drop c.Width.toNat).length)).drop c.Width.toNat) [])
 (some ((⟨0, 0, [], []⟩ : Q0), 0, 5))
 ((idx ((((s_1.take ((IntKind.wrap .i64 (c.Width + (IntKind.wrap .i64 v4))).toNat)).drop c.Width.toNat).take (((s_1.take ((IntKind.wrap .i64 (c.Width + (IntKind.wrap .i64 v4))).toNat)).drop c.Width.toNat).length)).drop c.Width.toNat) 0).bind fun b94 =>
 (Xb N (IntKind.wrap .i64 (b94.toNat : Int))).bind fun v96 =>
 cond (!v96.2)
 (some ((⟨0, 0, [], []⟩ : Q0), 0, 8))
 (cond (Q5 .eql (IntKind.wrap .i64 (b94.toNat : Int)) 0)
 (some ((⟨0, 0, [], []⟩ : Q0), 0, 8))
 (cond (Nat.ble 1 (((((s_1.take ((IntKind.wrap .i64 (c.Width + (IntKind.wrap .i64 v4))).toNat)).drop c.Width.toNat).take (((s_1.take ((IntKind.wrap .i64 (c.Width + (IntKind.wrap .i64 v4))).toNat)).drop c.Width.toNat).length)).drop c.Width.toNat).length) && Nat.ble (((((s_1.take ((IntKind.wrap .i64 (c.Width + (IntKind.wrap .i64 v4))).toNat)).drop c.Width.toNat).take (((s_1.take ((IntKind.wrap .i64 (c.Width + (IntKind.wrap .i64 v4))).toNat)).drop c.Width.toNat).length)).drop c.Width.toNat).length) ((((s_1.take ((IntKind.wrap .i64 (c.Width + (IntKind.wrap .i64 v4))).toNat)).drop c.Width.toNat).take (((s_1.take ((IntKind.wrap .i64 (c.Width + (IntKind.wrap .i64 v4))).toNat)).drop c.Width.toNat).length)).drop c.Width.toNat).length) (Xr R_polyglotref17_next N c most v4 v11 b94 v96 N ((((((s_1.take ((IntKind.wrap .i64 (c.Width + (IntKind.wrap .i64 v4))).toNat)).drop c.Width.toNat).take (((s_1.take ((IntKind.wrap .i64 (c.Width + (IntKind.wrap .i64 v4))).toNat)).drop c.Width.toNat).length)).drop c.Width.toNat).take (((((s_1.take ((IntKind.wrap .i64 (c.Width + (IntKind.wrap .i64 v4))).toNat)).drop c.Width.toNat).take (((s_1.take ((IntKind.wrap .i64 (c.Width + (IntKind.wrap .i64 v4))).toNat)).drop c.Width.toNat).length)).drop c.Width.toNat).length)).drop 1) 0 []) none))))
 (Xt R_polyglotref17_next N c most v4 v11 N ((((s_1.take ((IntKind.wrap .i64 (c.Width + (IntKind.wrap .i64 v4))).toNat)).drop c.Width.toNat).take (((s_1.take ((IntKind.wrap .i64 (c.Width + (IntKind.wrap .i64 v4))).toNat)).drop c.Width.toNat).length)).drop c.Width.toNat) 0 [])))) none) none)) none) none)) none) none)
theorem Q20 {R_polyglotref17_Read : (List UInt8) → Int → Option (Q0 × Int × Int)} {R_polyglotref17_Data : Int → (List UInt8) → Int → Option (Q0 × Int × Int)} {R_polyglotref17_sized : Qd → (List UInt8) → Int → Option (Q0 × Int × Int)} {R_polyglotref17_next : Int → (List UInt8) → Int → Option (Q0 × Int × Int)} (hR_polyglotref17_Read : ∀ {s_0} {most} {r}, R_polyglotref17_Read s_0 most = some r → Zq Tryz.prog G1 18 [.str s_0, .int .i64 most] (.tuple [.agg (Q0.cells r.1), .int .i64 r.2.1, .int .i64 r.2.2])) (hR_polyglotref17_Data : ∀ {code} {s_1} {most} {r}, R_polyglotref17_Data code s_1 most = some r → Zq Tryz.prog G1 65 [.int .i64 code, .str s_1, .int .i64 most] (.tuple [.agg (Q0.cells r.1), .int .i64 r.2.1, .int .i64 r.2.2])) (hR_polyglotref17_sized : ∀ {c} {s_1} {most} {r}, R_polyglotref17_sized c s_1 most = some r → Zq Tryz.prog G1 98 [.agg (Qd.cells c), .str s_1, .int .i64 most] (.tuple [.agg (Q0.cells r.1), .int .i64 r.2.1, .int .i64 r.2.2])) (hR_polyglotref17_next : ∀ {code} {s_1} {most} {r}, R_polyglotref17_next code s_1 most = some r → Zq Tryz.prog G1 120 [.int .i64 code, .str s_1, .int .i64 most] (.tuple [.agg (Q0.cells r.1), .int .i64 r.2.1, .int .i64 r.2.2])) {N} {c} {s_1} {most} {r} (h : Xo R_polyglotref17_Read R_polyglotref17_Data R_polyglotref17_sized R_polyglotref17_next N c s_1 most = some r) : Zq Tryz.prog G1 98 [.agg (Qd.cells c), .str s_1, .int .i64 most] (.tuple [.agg (Q0.cells r.1), .int .i64 r.2.1, .int .i64 r.2.2]) := by
 refine Q4 k98 ?_
 unfold Xo at h
 apply iU h <;> intro h
 ·obtain rfl := Qb h; exact (Frz.tuple' (.cons q4n p2))
 ·obtain ⟨hk2, h⟩ := Q85 h
  refine Q46 hk2 ?_
  refine kU h fun h => ?_
  refine cP h Wk p1 fun v4 h => ?_
  apply iU h <;> intro h
  ·obtain rfl := Qb h; exact (Frz.tuple' (.cons q4n p2))
  ·refine Q46 hk2 ?_
   refine kU h fun h => ?_
   refine kU h fun h => ?_
   apply iU h <;> intro h
   ·obtain rfl := Qb h; exact (Frz.tuple' (.cons q4n p2))
   ·refine Q46 hk2 ?_
    refine kU h fun h => ?_
    refine cP h Wk p1 fun v11 h => ?_
    refine Q46 hk2 ?_
    refine kU h fun h => ?_
    apply iU h <;> intro h
    ·obtain rfl := Qb h; exact (Frz.tuple' (.cons q4n p2))
    ·refine ifO h (fun hc15 h => ?_) (fun hc15 h => ?_)
     ·apply iU h <;> intro h
      ·obtain rfl := Qb h; exact (Frz.tuple' (.cons q4n p2))
      ·refine ifO h (fun hc17 h => ?_) (fun hc17 h => ?_)
       ·apply iU h <;> intro h
        ·obtain rfl := Qb h; exact (Frz.tuple' (.cons q4n p2))
        ·refine ifT hc17 ?_
         refine xB h fun b19 h => ?_
         refine cP h Vw p1 fun v21 h => ?_
         apply iU h <;> intro h
         ·obtain rfl := Qb h; exact (Frz.tuple' (.cons q4n p2))
         ·apply iU h <;> intro h
          ·obtain rfl := Qb h; exact (Frz.tuple' (.cons q4n p2))
          ·refine Qo ?_
           refine kU h fun h => ?_
           refine lpC (τ := (List UInt8) × Int × (List Q0)) (fun ⟨body44, i45, _⟩ => (.any :: .any :: iI most :: .ptr 0 0 :: .any :: .any :: .ptr 1 0 :: a4 (.p (.int .i64 (IntKind.wrap .i64 (c.Width + (IntKind.wrap .i64 v4)))) :: iS body44 :: iW v11 :: .ptr 2 0 :: iI (IntKind.wrap .i64 (b19.toNat : Int)) :: .any :: .any :: iW i45 :: a16 (a16 (a16 (a16 (a16 (a16 (a16 (a16 (a8 ([])))))))))) : List AV)) (fun ⟨_, _, l46⟩ => (.cells (iI c.Code :: iI c.Kind :: iI c.Width :: .p (.bool c.Sized) :: .p (.bool c.Items) :: []) :: .cells (iI 0 :: iW 0 :: iS [] :: .p .nilSlice :: []) :: .cells (iI c.Kind :: iW (IntKind.wrap .u64 v21.1.Kind) :: iS [] :: .slice 4 4 0 l46.length :: []) :: .cells (iI v21.1.Code :: iI v21.1.Kind :: iI v21.1.Width :: .p (.bool v21.1.Sized) :: .p (.bool v21.1.Items) :: []) :: .cells (Wr Q0.cells l46) :: [] : List AObj)) (fun n0 ⟨body44, i45, l46⟩ => V3 R_polyglotref17_next N c most v4 v11 b19 v21 n0 body44 i45 l46) (((((((s_1.take ((IntKind.wrap .i64 (c.Width + (IntKind.wrap .i64 v4))).toNat)).drop c.Width.toNat).take (((s_1.take ((IntKind.wrap .i64 (c.Width + (IntKind.wrap .i64 v4))).toNat)).drop c.Width.toNat).length)).drop c.Width.toNat).take (((((s_1.take ((IntKind.wrap .i64 (c.Width + (IntKind.wrap .i64 v4))).toNat)).drop c.Width.toNat).take (((s_1.take ((IntKind.wrap .i64 (c.Width + (IntKind.wrap .i64 v4))).toNat)).drop c.Width.toNat).length)).drop c.Width.toNat).length)).drop 1), 0, []) h (fun i => i) ⟨(rW <| rE rfl <| rE rfl <| rW <| rE rfl <| rV <| rE rfl <| rE rfl <| rE rfl <| rE rfl <| rE rfl <| rW <| rE rfl <| rX <| rX <| rX <| rX <| rX <| rX <| rX <| rX <| rX <| rX <| rX <| rX <| rX <| rX <| rX <| rX <| rX <| rN), (hE rfl <| hE rfl <| hC rfl (rE rfl <| rE rfl <| rE rfl <| rS <| rN) <| hE rfl <| hV lb <| hN), rfl, rfl, (roE rfl <| roE rfl <| roE rfl <| roE rfl <| roE (Qh _ _ _) <| roN)⟩ fun n0 ⟨body44, i45, l46⟩ h => ?_
           simp only [V3] at h
           apply iU h <;> intro h
           ·refine cP h hR_polyglotref17_next p3 fun v48 h => ?_
            apply iU h <;> intro h
            ·refine ifT (by unfold Q5; decide) ?_
             obtain rfl := Qb h; exact (Frz.tuple' (.cons q4n p2))
            ·apply iU h <;> intro h
             ·obtain rfl := Qb h; exact (Frz.tuple' (.cons q4n p2))
             ·refine Qo ?_
              obtain ⟨hk52, h⟩ := Q85 h
              refine Q46 (U2 (c := Q0.cells) (e := 4) (fun _ => rfl) (by simp) hk52) ?_
              refine Jd (c := Q0.cells) [v48.1] rfl ?_
              refine kU h fun h => ?_
              refine kU h fun h => ?_
              show Exists _
              exact ⟨(n0, ((body44.take body44.length).drop v48.2.1.toNat), (IntKind.wrap .u64 (i45 + 1)), (l46 ++ [v48.1])), h, Nat.lt_succ_self _, (rho [0, 1, 2, 3, 7]), ⟨(rW <| rE rfl <| rE rfl <| rW <| rE rfl <| rV <| rE rfl <| rE rfl <| rE rfl <| rE rfl <| rE rfl <| rW <| rE rfl <| rX <| rX <| rX <| rX <| rX <| rX <| rX <| rX <| rX <| rX <| rX <| rX <| rX <| rX <| rX <| rX <| rX <| rN), (hE rfl <| hE rfl <| hC rfl (rE rfl <| rE rfl <| rE rfl <| rL (by simp) rfl <| rN) <| hE rfl <| hO rfl <| hN), rfl, rfl, (roE rfl <| roE rfl <| roE rfl <| roE rfl <| roE (Qh _ _ _) <| roN)⟩⟩
           ·apply iU h <;> intro h
            ·obtain rfl := Qb h; exact (Frz.tuple' (.cons q4n p2))
            ·refine ifT hc15 ?_
             refine cK h Jk (.cons (Q0.frz_own (l := l46) rfl trivial (by simp)) .nil) fun v56 h => ?_
             apply iU h <;> intro h
             ·obtain rfl := Qb h; exact (Frz.tuple' (.cons q4n p2))
             ·obtain rfl := Qb h; exact (Frz.tuple' (.cons (Frz.agg' (.cons (.p _) (.cons (.p _) (.cons (.p _) (.cons (Q0.frz_own (l := l46) rfl trivial (by simp)) .nil))))) p2))
       ·refine ifF hc17 ?_
        refine lpC (τ := (List UInt8) × Int × (List Q0)) (fun ⟨body77, i78, _⟩ => (.any :: .any :: iI most :: .ptr 0 0 :: .any :: .any :: .ptr 1 0 :: a4 (.p (.int .i64 (IntKind.wrap .i64 (c.Width + (IntKind.wrap .i64 v4)))) :: iS body77 :: iW v11 :: .ptr 2 0 :: iI (-1) :: .any :: .any :: iW i78 :: a16 (a16 (a16 (a16 (a16 (a16 (a16 (a16 (a8 ([])))))))))) : List AV)) (fun ⟨_, _, l79⟩ => (.cells (iI c.Code :: iI c.Kind :: iI c.Width :: .p (.bool c.Sized) :: .p (.bool c.Items) :: []) :: .cells (iI 0 :: iW 0 :: iS [] :: .p .nilSlice :: []) :: .cells (iI c.Kind :: iW 0 :: iS [] :: .slice 4 3 0 l79.length :: []) :: .cells (Wr Q0.cells l79) :: [] : List AObj)) (fun n1 ⟨body77, i78, l79⟩ => Xw R_polyglotref17_next N c most v4 v11 n1 body77 i78 l79) (((((s_1.take ((IntKind.wrap .i64 (c.Width + (IntKind.wrap .i64 v4))).toNat)).drop c.Width.toNat).take (((s_1.take ((IntKind.wrap .i64 (c.Width + (IntKind.wrap .i64 v4))).toNat)).drop c.Width.toNat).length)).drop c.Width.toNat), 0, []) h (fun i => i) ⟨(rW <| rE rfl <| rE rfl <| rW <| rE rfl <| rV <| rE rfl <| rE rfl <| rE rfl <| rE rfl <| rE rfl <| rW <| rE rfl <| rX <| rX <| rX <| rX <| rX <| rX <| rX <| rX <| rX <| rX <| rX <| rX <| rX <| rX <| rX <| rX <| rX <| rN), (hE rfl <| hE rfl <| hC rfl (rE rfl <| rE rfl <| rE rfl <| rS <| rN) <| hV lb <| hN), rfl, rfl, (roE rfl <| roE rfl <| roE rfl <| roE (Qh _ _ _) <| roN)⟩ fun n1 ⟨body77, i78, l79⟩ h => ?_
        simp only [Xw] at h
        apply iU h <;> intro h
        ·refine cP h hR_polyglotref17_next p3 fun v81 h => ?_
         apply iU h <;> intro h
         ·refine ifT (by unfold Q5; decide) ?_
          obtain rfl := Qb h; exact (Frz.tuple' (.cons q4n p2))
         ·apply iU h <;> intro h
          ·obtain rfl := Qb h; exact (Frz.tuple' (.cons q4n p2))
          ·refine Qo ?_
           obtain ⟨hk85, h⟩ := Q85 h
           refine Q46 (U2 (c := Q0.cells) (e := 4) (fun _ => rfl) (by simp) hk85) ?_
           refine Jd (c := Q0.cells) [v81.1] rfl ?_
           refine kU h fun h => ?_
           refine kU h fun h => ?_
           show Exists _
           exact ⟨(n1, ((body77.take body77.length).drop v81.2.1.toNat), (IntKind.wrap .u64 (i78 + 1)), (l79 ++ [v81.1])), h, Nat.lt_succ_self _, (rho [0, 1, 2, 6]), ⟨(rW <| rE rfl <| rE rfl <| rW <| rE rfl <| rV <| rE rfl <| rE rfl <| rE rfl <| rE rfl <| rE rfl <| rW <| rE rfl <| rX <| rX <| rX <| rX <| rX <| rX <| rX <| rX <| rX <| rX <| rX <| rX <| rX <| rX <| rX <| rX <| rX <| rN), (hE rfl <| hE rfl <| hC rfl (rE rfl <| rE rfl <| rE rfl <| rL (by simp) rfl <| rN) <| hO rfl <| hN), rfl, rfl, (roE rfl <| roE rfl <| roE rfl <| roE (Qh _ _ _) <| roN)⟩⟩
        ·apply iU h <;> intro h
         ·obtain rfl := Qb h; exact (Frz.tuple' (.cons q4n p2))
         ·refine ifT hc15 ?_
          refine cK h Jk (.cons (Q0.frz_own (l := l79) rfl trivial (by simp)) .nil) fun v89 h => ?_
          apply iU h <;> intro h
          ·obtain rfl := Qb h; exact (Frz.tuple' (.cons q4n p2))
          ·obtain rfl := Qb h; exact (Frz.tuple' (.cons (Frz.agg' (.cons (.p _) (.cons (.p _) (.cons (.p _) (.cons (Q0.frz_own (l := l79) rfl trivial (by simp)) .nil))))) p2))
     ·refine ifO h (fun hc92 h => ?_) (fun hc92 h => ?_)
      ·apply iU h <;> intro h
       ·obtain rfl := Qb h; exact (Frz.tuple' (.cons q4n p2))
       ·refine ifT hc92 ?_
        refine xB h fun b94 h => ?_
        refine cP h Vw p1 fun v96 h => ?_
        apply iU h <;> intro h
        ·obtain rfl := Qb h; exact (Frz.tuple' (.cons q4n p2))
        ·apply iU h <;> intro h
         ·obtain rfl := Qb h; exact (Frz.tuple' (.cons q4n p2))
         ·refine Qo ?_
          refine kU h fun h => ?_
          refine lpC (τ := (List UInt8) × Int × (List Q0)) (fun ⟨body119, i120, _⟩ => (.any :: .any :: iI most :: .ptr 0 0 :: .any :: .any :: .ptr 1 0 :: a4 (.p (.int .i64 (IntKind.wrap .i64 (c.Width + (IntKind.wrap .i64 v4)))) :: iS body119 :: iW v11 :: .ptr 2 0 :: iI (IntKind.wrap .i64 (b94.toNat : Int)) :: .any :: .any :: iW i120 :: a16 (a16 (a16 (a16 (a16 (a16 (a16 (a16 (a8 ([])))))))))) : List AV)) (fun ⟨_, _, l121⟩ => (.cells (iI c.Code :: iI c.Kind :: iI c.Width :: .p (.bool c.Sized) :: .p (.bool c.Items) :: []) :: .cells (iI 0 :: iW 0 :: iS [] :: .p .nilSlice :: []) :: .cells (iI c.Kind :: iW (IntKind.wrap .u64 v96.1.Kind) :: iS [] :: .slice 4 4 0 l121.length :: []) :: .cells (iI v96.1.Code :: iI v96.1.Kind :: iI v96.1.Width :: .p (.bool v96.1.Sized) :: .p (.bool v96.1.Items) :: []) :: .cells (Wr Q0.cells l121) :: [] : List AObj)) (fun n2 ⟨body119, i120, l121⟩ => Xr R_polyglotref17_next N c most v4 v11 b94 v96 n2 body119 i120 l121) (((((((s_1.take ((IntKind.wrap .i64 (c.Width + (IntKind.wrap .i64 v4))).toNat)).drop c.Width.toNat).take (((s_1.take ((IntKind.wrap .i64 (c.Width + (IntKind.wrap .i64 v4))).toNat)).drop c.Width.toNat).length)).drop c.Width.toNat).take (((((s_1.take ((IntKind.wrap .i64 (c.Width + (IntKind.wrap .i64 v4))).toNat)).drop c.Width.toNat).take (((s_1.take ((IntKind.wrap .i64 (c.Width + (IntKind.wrap .i64 v4))).toNat)).drop c.Width.toNat).length)).drop c.Width.toNat).length)).drop 1), 0, []) h (fun i => i) ⟨(rW <| rE rfl <| rE rfl <| rW <| rE rfl <| rV <| rE rfl <| rE rfl <| rE rfl <| rE rfl <| rE rfl <| rW <| rE rfl <| rX <| rX <| rX <| rX <| rX <| rX <| rX <| rX <| rX <| rX <| rX <| rX <| rX <| rX <| rX <| rX <| rX <| rN), (hE rfl <| hE rfl <| hC rfl (rE rfl <| rE rfl <| rE rfl <| rS <| rN) <| hE rfl <| hV lb <| hN), rfl, rfl, (roE rfl <| roE rfl <| roE rfl <| roE rfl <| roE (Qh _ _ _) <| roN)⟩ fun n2 ⟨body119, i120, l121⟩ h => ?_
          simp only [Xr] at h
          apply iU h <;> intro h
          ·refine cP h hR_polyglotref17_next p3 fun v123 h => ?_
           apply iU h <;> intro h
           ·refine ifT (by unfold Q5; decide) ?_
            obtain rfl := Qb h; exact (Frz.tuple' (.cons q4n p2))
           ·apply iU h <;> intro h
            ·obtain rfl := Qb h; exact (Frz.tuple' (.cons q4n p2))
            ·refine Qo ?_
             obtain ⟨hk127, h⟩ := Q85 h
             refine Q46 (U2 (c := Q0.cells) (e := 4) (fun _ => rfl) (by simp) hk127) ?_
             refine Jd (c := Q0.cells) [v123.1] rfl ?_
             refine kU h fun h => ?_
             refine kU h fun h => ?_
             show Exists _
             exact ⟨(n2, ((body119.take body119.length).drop v123.2.1.toNat), (IntKind.wrap .u64 (i120 + 1)), (l121 ++ [v123.1])), h, Nat.lt_succ_self _, (rho [0, 1, 2, 3, 7]), ⟨(rW <| rE rfl <| rE rfl <| rW <| rE rfl <| rV <| rE rfl <| rE rfl <| rE rfl <| rE rfl <| rE rfl <| rW <| rE rfl <| rX <| rX <| rX <| rX <| rX <| rX <| rX <| rX <| rX <| rX <| rX <| rX <| rX <| rX <| rX <| rX <| rX <| rN), (hE rfl <| hE rfl <| hC rfl (rE rfl <| rE rfl <| rE rfl <| rL (by simp) rfl <| rN) <| hE rfl <| hO rfl <| hN), rfl, rfl, (roE rfl <| roE rfl <| roE rfl <| roE rfl <| roE (Qh _ _ _) <| roN)⟩⟩
          ·apply iU h <;> intro h
           ·obtain rfl := Qb h; exact (Frz.tuple' (.cons q4n p2))
           ·refine ifF hc15 ?_
            obtain rfl := Qb h; exact (Frz.tuple' (.cons (Frz.agg' (.cons (.p _) (.cons (.p _) (.cons (.p _) (.cons (Q0.frz_own (l := l121) rfl trivial (by simp)) .nil))))) p2))
      ·refine ifF hc92 ?_
       refine lpC (τ := (List UInt8) × Int × (List Q0)) (fun ⟨body149, i150, _⟩ => (.any :: .any :: iI most :: .ptr 0 0 :: .any :: .any :: .ptr 1 0 :: a4 (.p (.int .i64 (IntKind.wrap .i64 (c.Width + (IntKind.wrap .i64 v4)))) :: iS body149 :: iW v11 :: .ptr 2 0 :: iI (-1) :: .any :: .any :: iW i150 :: a16 (a16 (a16 (a16 (a16 (a16 (a16 (a16 (a8 ([])))))))))) : List AV)) (fun ⟨_, _, l151⟩ => (.cells (iI c.Code :: iI c.Kind :: iI c.Width :: .p (.bool c.Sized) :: .p (.bool c.Items) :: []) :: .cells (iI 0 :: iW 0 :: iS [] :: .p .nilSlice :: []) :: .cells (iI c.Kind :: iW 0 :: iS [] :: .slice 4 3 0 l151.length :: []) :: .cells (Wr Q0.cells l151) :: [] : List AObj)) (fun n3 ⟨body149, i150, l151⟩ => Xt R_polyglotref17_next N c most v4 v11 n3 body149 i150 l151) (((((s_1.take ((IntKind.wrap .i64 (c.Width + (IntKind.wrap .i64 v4))).toNat)).drop c.Width.toNat).take (((s_1.take ((IntKind.wrap .i64 (c.Width + (IntKind.wrap .i64 v4))).toNat)).drop c.Width.toNat).length)).drop c.Width.toNat), 0, []) h (fun i => i) ⟨(rW <| rE rfl <| rE rfl <| rW <| rE rfl <| rV <| rE rfl <| rE rfl <| rE rfl <| rE rfl <| rE rfl <| rW <| rE rfl <| rX <| rX <| rX <| rX <| rX <| rX <| rX <| rX <| rX <| rX <| rX <| rX <| rX <| rX <| rX <| rX <| rX <| rN), (hE rfl <| hE rfl <| hC rfl (rE rfl <| rE rfl <| rE rfl <| rS <| rN) <| hV lb <| hN), rfl, rfl, (roE rfl <| roE rfl <| roE rfl <| roE (Qh _ _ _) <| roN)⟩ fun n3 ⟨body149, i150, l151⟩ h => ?_
       simp only [Xt] at h
       apply iU h <;> intro h
       ·refine cP h hR_polyglotref17_next p3 fun v153 h => ?_
        apply iU h <;> intro h
        ·refine ifT (by unfold Q5; decide) ?_
         obtain rfl := Qb h; exact (Frz.tuple' (.cons q4n p2))
        ·apply iU h <;> intro h
         ·obtain rfl := Qb h; exact (Frz.tuple' (.cons q4n p2))
         ·refine Qo ?_
          obtain ⟨hk157, h⟩ := Q85 h
          refine Q46 (U2 (c := Q0.cells) (e := 4) (fun _ => rfl) (by simp) hk157) ?_
          refine Jd (c := Q0.cells) [v153.1] rfl ?_
          refine kU h fun h => ?_
          refine kU h fun h => ?_
          show Exists _
          exact ⟨(n3, ((body149.take body149.length).drop v153.2.1.toNat), (IntKind.wrap .u64 (i150 + 1)), (l151 ++ [v153.1])), h, Nat.lt_succ_self _, (rho [0, 1, 2, 6]), ⟨(rW <| rE rfl <| rE rfl <| rW <| rE rfl <| rV <| rE rfl <| rE rfl <| rE rfl <| rE rfl <| rE rfl <| rW <| rE rfl <| rX <| rX <| rX <| rX <| rX <| rX <| rX <| rX <| rX <| rX <| rX <| rX <| rX <| rX <| rX <| rX <| rX <| rN), (hE rfl <| hE rfl <| hC rfl (rE rfl <| rE rfl <| rE rfl <| rL (by simp) rfl <| rN) <| hO rfl <| hN), rfl, rfl, (roE rfl <| roE rfl <| roE rfl <| roE (Qh _ _ _) <| roN)⟩⟩
       ·apply iU h <;> intro h
        ·obtain rfl := Qb h; exact (Frz.tuple' (.cons q4n p2))
        ·refine ifF hc15 ?_
         obtain rfl := Qb h; exact (Frz.tuple' (.cons (Frz.agg' (.cons (.p _) (.cons (.p _) (.cons (.p _) (.cons (Q0.frz_own (l := l151) rfl trivial (by simp)) .nil))))) p2))
def X3 (R_polyglotref17_Read : (List UInt8) → Int → Option (Q0 × Int × Int)) (R_polyglotref17_Data : Int → (List UInt8) → Int → Option (Q0 × Int × Int)) (R_polyglotref17_sized : Qd → (List UInt8) → Int → Option (Q0 × Int × Int)) (R_polyglotref17_next : Int → (List UInt8) → Int → Option (Q0 × Int × Int)) (_N : Nat) (code : Int) (s_1 : List UInt8) (most : Int) : Option (Q0 × Int × Int) :=
 cond (Q5 .lss code 0)
 ((R_polyglotref17_Read s_1 most).bind fun v2 =>
 some (v2.1, v2.2.1, v2.2.2))
 ((R_polyglotref17_Data code s_1 most).bind fun v4 =>
 some (v4.1, v4.2.1, v4.2.2))
theorem Q2e {R_polyglotref17_Read : (List UInt8) → Int → Option (Q0 × Int × Int)} {R_polyglotref17_Data : Int → (List UInt8) → Int → Option (Q0 × Int × Int)} {R_polyglotref17_sized : Qd → (List UInt8) → Int → Option (Q0 × Int × Int)} {R_polyglotref17_next : Int → (List UInt8) → Int → Option (Q0 × Int × Int)} (hR_polyglotref17_Read : ∀ {s_0} {most} {r}, R_polyglotref17_Read s_0 most = some r → Zq Tryz.prog G1 18 [.str s_0, .int .i64 most] (.tuple [.agg (Q0.cells r.1), .int .i64 r.2.1, .int .i64 r.2.2])) (hR_polyglotref17_Data : ∀ {code} {s_1} {most} {r}, R_polyglotref17_Data code s_1 most = some r → Zq Tryz.prog G1 65 [.int .i64 code, .str s_1, .int .i64 most] (.tuple [.agg (Q0.cells r.1), .int .i64 r.2.1, .int .i64 r.2.2])) (hR_polyglotref17_sized : ∀ {c} {s_1} {most} {r}, R_polyglotref17_sized c s_1 most = some r → Zq Tryz.prog G1 98 [.agg (Qd.cells c), .str s_1, .int .i64 most] (.tuple [.agg (Q0.cells r.1), .int .i64 r.2.1, .int .i64 r.2.2])) (hR_polyglotref17_next : ∀ {code} {s_1} {most} {r}, R_polyglotref17_next code s_1 most = some r → Zq Tryz.prog G1 120 [.int .i64 code, .str s_1, .int .i64 most] (.tuple [.agg (Q0.cells r.1), .int .i64 r.2.1, .int .i64 r.2.2])) {N} {code} {s_1} {most} {r} (h : X3 R_polyglotref17_Read R_polyglotref17_Data R_polyglotref17_sized R_polyglotref17_next N code s_1 most = some r) : Zq Tryz.prog G1 120 [.int .i64 code, .str s_1, .int .i64 most] (.tuple [.agg (Q0.cells r.1), .int .i64 r.2.1, .int .i64 r.2.2]) := by
 refine Q4 Qy1 ?_
 unfold X3 at h
 apply iU h <;> intro h
 ·refine cP h hR_polyglotref17_Read p2 fun v2 h => ?_
  obtain rfl := Qb h; exact (Frz.tuple' (.cons q4 p2))
 ·refine cP h hR_polyglotref17_Data p3 fun v4 h => ?_
  obtain rfl := Qb h; exact (Frz.tuple' (.cons q4 p2))
def Q9 : Nat → ((List UInt8) → Int → Option (Q0 × Int × Int)) × (Int → (List UInt8) → Int → Option (Q0 × Int × Int)) × (Qd → (List UInt8) → Int → Option (Q0 × Int × Int)) × (Int → (List UInt8) → Int → Option (Q0 × Int × Int))
 | 0 => (fun _ _ => none, fun _ _ _ => none, fun _ _ _ => none, fun _ _ _ => none)
 | N + 1 => (X6 ((Q9 N).1) ((Q9 N).2.1) ((Q9 N).2.2.1) ((Q9 N).2.2.2) N, X5 ((Q9 N).1) ((Q9 N).2.1) ((Q9 N).2.2.1) ((Q9 N).2.2.2) N, Xo ((Q9 N).1) ((Q9 N).2.1) ((Q9 N).2.2.1) ((Q9 N).2.2.2) N, X3 ((Q9 N).1) ((Q9 N).2.1) ((Q9 N).2.2.1) ((Q9 N).2.2.2) N)
def Qs (N : Nat) : (List UInt8) → Int → Option (Q0 × Int × Int) := (Q9 N).1
def Y2 (N : Nat) : Int → (List UInt8) → Int → Option (Q0 × Int × Int) := (Q9 N).2.1
def Yt (N : Nat) : Qd → (List UInt8) → Int → Option (Q0 × Int × Int) := (Q9 N).2.2.1
def X2 (N : Nat) : Int → (List UInt8) → Int → Option (Q0 × Int × Int) := (Q9 N).2.2.2
theorem Q23 : ∀ N, (∀ {s_0 : List UInt8} {most : Int} {r : Q0 × Int × Int}, (Q9 N).1 s_0 most = some r → Zq Tryz.prog G1 18 [.str s_0, .int .i64 most] (.tuple [.agg (Q0.cells r.1), .int .i64 r.2.1, .int .i64 r.2.2])) ∧ (∀ {code : Int} {s_1 : List UInt8} {most : Int} {r : Q0 × Int × Int}, (Q9 N).2.1 code s_1 most = some r → Zq Tryz.prog G1 65 [.int .i64 code, .str s_1, .int .i64 most] (.tuple [.agg (Q0.cells r.1), .int .i64 r.2.1, .int .i64 r.2.2])) ∧ (∀ {c : Qd} {s_1 : List UInt8} {most : Int} {r : Q0 × Int × Int}, (Q9 N).2.2.1 c s_1 most = some r → Zq Tryz.prog G1 98 [.agg (Qd.cells c), .str s_1, .int .i64 most] (.tuple [.agg (Q0.cells r.1), .int .i64 r.2.1, .int .i64 r.2.2])) ∧ (∀ {code : Int} {s_1 : List UInt8} {most : Int} {r : Q0 × Int × Int}, (Q9 N).2.2.2 code s_1 most = some r → Zq Tryz.prog G1 120 [.int .i64 code, .str s_1, .int .i64 most] (.tuple [.agg (Q0.cells r.1), .int .i64 r.2.1, .int .i64 r.2.2])) := by
 intro N
 induction N with
 | zero => exact ⟨(fun h => by simp [Q9] at h), (fun h => by simp [Q9] at h), (fun h => by simp [Q9] at h), (fun h => by simp [Q9] at h)⟩
 | succ N ih => exact ⟨(fun h => Q2f (N := N) (fun h => ih.1 h) (fun h => ih.2.1 h) (fun h => ih.2.2.1 h) (fun h => ih.2.2.2 h) h), (fun h => Q2k (N := N) (fun h => ih.1 h) (fun h => ih.2.1 h) (fun h => ih.2.2.1 h) (fun h => ih.2.2.2 h) h), (fun h => Q20 (N := N) (fun h => ih.1 h) (fun h => ih.2.1 h) (fun h => ih.2.2.1 h) (fun h => ih.2.2.2 h) h), (fun h => Q2e (N := N) (fun h => ih.1 h) (fun h => ih.2.1 h) (fun h => ih.2.2.1 h) (fun h => ih.2.2.2 h) h)⟩
theorem Q2q {N : Nat} {s_0 : List UInt8} {most : Int} {r : Q0 × Int × Int} (h : Qs N s_0 most = some r) : Zq Tryz.prog G1 18 [.str s_0, .int .i64 most] (.tuple [.agg (Q0.cells r.1), .int .i64 r.2.1, .int .i64 r.2.2]) := (Q23 N).1 h
def Xf (R_polyglotkit_nodes : Q0 → Int → Int → Option (Int)) (N : Nat) (v : Q0) (deep : Int) (most : Int) : Nat → Int → Int → Option (Int)
 | 0, _, _ => none
 | n + 1, n18, i19 =>
  cond (Q5 .lss i19 ((Q0.rows v.Items).length : Int))
  (cond (Q5 .leq n18 most)
  ((idx v.Items i19).bind fun y22 =>
  (R_polyglotkit_nodes y22 (IntKind.wrap .i64 (deep - 1)) (IntKind.wrap .i64 (most - n18))).bind fun v24 =>
  Xf R_polyglotkit_nodes N v deep most n (IntKind.wrap .i64 (n18 + v24)) (IntKind.wrap .i64 (i19 + 1)))
  (some n18))
  (some n18)
def Uh (R_polyglotkit_nodes : Q0 → Int → Int → Option (Int)) (N : Nat) (v : Q0) (deep : Int) (most : Int) : Option (Int) :=
 cond (Q5 .lss deep 0)
 (some (IntKind.wrap .i64 (most + 1)))
 (cond (Q5 .gtr ((Q0.rows v.Items).length : Int) most)
 (some (IntKind.wrap .i64 (most + 1)))
 (cond (Q5 .gtr (v.Text.length : Int) 400)
 (some (IntKind.wrap .i64 (most + 1)))
 (Xf R_polyglotkit_nodes N v deep most N 1 0)))
theorem Q35 {R_polyglotkit_nodes : Q0 → Int → Int → Option (Int)} (hR_polyglotkit_nodes : ∀ {v} {deep} {most} {r}, R_polyglotkit_nodes v deep most = some r → Zq Tryz.prog G1 66 [.agg (Q0.cells v), .int .i64 deep, .int .i64 most] (.int .i64 r)) {N} {v} {deep} {most} {r} (h : Uh R_polyglotkit_nodes N v deep most = some r) : Zq Tryz.prog G1 66 [.agg (Q0.cells v), .int .i64 deep, .int .i64 most] (.int .i64 r) := by
 refine Q4 k66 ?_
 unfold Uh at h
 apply iU h <;> intro h
 ·cases h; exact (.p _)
 ·apply iU h <;> intro h
  ·cases h; exact (.p _)
  ·apply iU h <;> intro h
   ·cases h; exact (.p _)
   ·refine lpC (τ := Int × Int) (fun ⟨n18, i19⟩ => (.any :: iI deep :: iI most :: .ptr 0 0 :: a2 (.any :: iI n18 :: iI i19 :: a16 (a16 (a8 (a2 (.any :: []))))) : List AV)) (fun ⟨_, _⟩ => (.cells (iI v.Kind :: iW v.N' :: iS v.Text :: .p (.slice 4 (Q0.rows v.Items)) :: []) :: [] : List AObj)) (fun n0 ⟨n18, i19⟩ => Xf R_polyglotkit_nodes N v deep most n0 n18 i19) (1, 0) h (fun i => i) ⟨(rA <| rE rfl <| rE rfl <| rE rfl <| rW <| rA <| rE rfl <| rE rfl <| rX <| rX <| rX <| rX <| rX <| rW <| rA <| rN), (hE rfl <| hN), rfl, rfl, (roE rfl <| roN)⟩ fun n0 ⟨n18, i19⟩ h => ?_
    simp only [Xf] at h
    apply iU h <;> intro h
    ·apply iU h <;> intro h
     ·refine Q0.xR h fun y22 h => ?_
      refine cP h hR_polyglotkit_nodes (.cons q4 p2) fun v24 h => ?_
      show Exists _
      exact ⟨(n0, (IntKind.wrap .i64 (n18 + v24)), (IntKind.wrap .i64 (i19 + 1))), h, Nat.lt_succ_self _, (fun i => i), ⟨(rA <| rE rfl <| rE rfl <| rE rfl <| rW <| rA <| rE rfl <| rE rfl <| rX <| rX <| rX <| rX <| rX <| rW <| rA <| rN), (hE rfl <| hN), rfl, rfl, (roE rfl <| roN)⟩⟩
     ·cases h; exact (.p _)
    ·cases h; exact (.p _)
def Xj : Nat → Q0 → Int → Int → Option (Int)
 | 0 => fun _ _ _ => none
 | N + 1 => Uh (Xj N) N
theorem Q30 {N} {v} {deep} {most} {r} (h : Xj N v deep most = some r) : Zq Tryz.prog G1 66 [.agg (Q0.cells v), .int .i64 deep, .int .i64 most] (.int .i64 r) := by
 induction N generalizing v deep most r with
 | zero => simp [Xj] at h
 | succ N ih => exact Q35 (fun h => ih h) h
def Yl (N : Nat) (v : Q0) : Option (Bool) :=
 (Xj N v 6 40).bind fun v1 =>
 some (Q5 .leq v1 40)
theorem Ux {N} {v} {r} (h : Yl N v = some r) : Zq Tryz.prog G1 20 [.agg (Q0.cells v)] (.bool r) := by
 refine Q4 k20 ?_
 unfold Yl at h
 refine cP h Q30 (.cons q4 p2) fun v1 h => ?_
 cases h; exact (.p _)
end
end
end Go.Av
