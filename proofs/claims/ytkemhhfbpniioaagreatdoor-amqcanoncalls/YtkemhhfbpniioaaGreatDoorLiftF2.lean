/- The law. Part of a proof of a given statement: for every input the law returns true and the arguments read as before; no condition beyond the given row. -/
import Derived.Test.YtkemhhfbpniioaaGreatDoorLiftF1
namespace Go.Av
noncomputable section
open Go.Proofs
set_option maxRecDepth 100000
set_option maxHeartbeats 4000000
attribute [local irreducible] Jf Ws Q9a Qa6 Q5 Q36 Qfw
section
def Xw (R_polyglotref17_Read : (List UInt8) → Int → Option (Q0 × Int × Int)) (R_polyglotref17_Data : Int → (List UInt8) → Int → Option (Q0 × Int × Int)) (R_polyglotref17_sized : Qf → (List UInt8) → Int → Option (Q0 × Int × Int)) (R_polyglotref17_next : Int → (List UInt8) → Int → Option (Q0 × Int × Int)) (_N : Nat) (s_0 : List UInt8) (most : Int) : Option (Q0 × Int × Int) :=
 cond (Q5 .lss most 0)
 (some ((⟨0, 0, [], []⟩ : Q0), 0, 2))
 (cond (Q5 .gtr most 32)
 (some ((⟨0, 0, [], []⟩ : Q0), 0, 2))
 (cond (Q36 .eql s_0 [])
 (some ((⟨0, 0, [], []⟩ : Q0), 0, 3))
 ((idx s_0 0).bind fun b4 =>
 cond (Nat.ble 1 s_0.length && Nat.ble s_0.length s_0.length) ((R_polyglotref17_Data (IntKind.wrap .i64 (b4.toNat : Int)) ((s_0.take s_0.length).drop 1) most).bind fun v7 =>
 cond (Q5 .neq v7.2.2 0)
 (some ((⟨0, 0, [], []⟩ : Q0), 0, v7.2.2))
 (some (v7.1, (IntKind.wrap .i64 (v7.2.1 + 1)), 0))) none)))
theorem Q50 {R_polyglotref17_Read : (List UInt8) → Int → Option (Q0 × Int × Int)} {R_polyglotref17_Data : Int → (List UInt8) → Int → Option (Q0 × Int × Int)} {R_polyglotref17_sized : Qf → (List UInt8) → Int → Option (Q0 × Int × Int)} {R_polyglotref17_next : Int → (List UInt8) → Int → Option (Q0 × Int × Int)} (hR_polyglotref17_Read : ∀ {s_0} {most} {r}, R_polyglotref17_Read s_0 most = some r → Qz Tryz.prog G1 18 [.str s_0, .int .i64 most] (.tuple [.agg (Q0.cells r.1), .int .i64 r.2.1, .int .i64 r.2.2])) (hR_polyglotref17_Data : ∀ {code} {s_1} {most} {r}, R_polyglotref17_Data code s_1 most = some r → Qz Tryz.prog G1 65 [.int .i64 code, .str s_1, .int .i64 most] (.tuple [.agg (Q0.cells r.1), .int .i64 r.2.1, .int .i64 r.2.2])) (hR_polyglotref17_sized : ∀ {c} {s_1} {most} {r}, R_polyglotref17_sized c s_1 most = some r → Qz Tryz.prog G1 98 [.agg (Qf.cells c), .str s_1, .int .i64 most] (.tuple [.agg (Q0.cells r.1), .int .i64 r.2.1, .int .i64 r.2.2])) (hR_polyglotref17_next : ∀ {code} {s_1} {most} {r}, R_polyglotref17_next code s_1 most = some r → Qz Tryz.prog G1 120 [.int .i64 code, .str s_1, .int .i64 most] (.tuple [.agg (Q0.cells r.1), .int .i64 r.2.1, .int .i64 r.2.2])) {N} {s_0} {most} {r} (h : Xw R_polyglotref17_Read R_polyglotref17_Data R_polyglotref17_sized R_polyglotref17_next N s_0 most = some r) : Qz Tryz.prog G1 18 [.str s_0, .int .i64 most] (.tuple [.agg (Q0.cells r.1), .int .i64 r.2.1, .int .i64 r.2.2]) := by
 refine Q4 k18 ?_
 unfold Xw at h
 apply iU h <;> intro h
 ·obtain rfl := Qc h; exact (Frz.tuple' (.cons q4n p2))
 ·apply iU h <;> intro h
  ·obtain rfl := Qc h; exact (Frz.tuple' (.cons q4n p2))
  ·apply iU h <;> intro h
   ·obtain rfl := Qc h; exact (Frz.tuple' (.cons q4n p2))
   ·refine Qe ?_
    refine xB h fun b4 h => ?_
    refine kU h fun h => ?_
    refine cD h hR_polyglotref17_Data p3 fun v7 h => ?_
    apply iU h <;> intro h
    ·obtain rfl := Qc h; exact (Frz.tuple' (.cons q4n p2))
    ·obtain rfl := Qc h; exact (Frz.tuple' (.cons q4 p2))
def Xv (R_polyglotref17_Read : (List UInt8) → Int → Option (Q0 × Int × Int)) (R_polyglotref17_Data : Int → (List UInt8) → Int → Option (Q0 × Int × Int)) (R_polyglotref17_sized : Qf → (List UInt8) → Int → Option (Q0 × Int × Int)) (R_polyglotref17_next : Int → (List UInt8) → Int → Option (Q0 × Int × Int)) (N : Nat) (code : Int) (s_1 : List UInt8) (most : Int) : Option (Q0 × Int × Int) :=
 cond (Q5 .lss most 0)
 (some ((⟨0, 0, [], []⟩ : Q0), 0, 2))
 (cond (Q5 .gtr most 32)
 (some ((⟨0, 0, [], []⟩ : Q0), 0, 2))
 ((Zi N code).bind fun v3 =>
 cond (!v3.2)
 (some ((⟨0, 0, [], []⟩ : Q0), 0, 8))
 (cond (!v3.1.Items)
 ((Um N code s_1).bind fun v7 =>
 some (v7.1, v7.2.1, v7.2.2))
 (cond (Q5 .eql most 0)
 (some ((⟨0, 0, [], []⟩ : Q0), 0, 14))
 (cond v3.1.Sized
 ((R_polyglotref17_sized v3.1 s_1 most).bind fun v11 =>
 some (v11.1, v11.2.1, v11.2.2))
 (cond (Q5 .eql v3.1.Kind 22)
 (some ((⟨22, 0, [], []⟩ : Q0), 0, 0))
 ((R_polyglotref17_Read s_1 (IntKind.wrap .i64 (most - 1))).bind fun v14 =>
 cond (Q5 .neq v14.2.2 0)
 (some ((⟨0, 0, [], []⟩ : Q0), 0, v14.2.2))
 (cond (decide (0 ≤ v14.2.1)) (cond (Nat.ble v14.2.1.toNat s_1.length && Nat.ble s_1.length s_1.length) ((R_polyglotref17_Read ((s_1.take s_1.length).drop v14.2.1.toNat) (IntKind.wrap .i64 (most - 1))).bind fun v19 =>
 cond (Q5 .neq v19.2.2 0)
 (some ((⟨0, 0, [], []⟩ : Q0), 0, v19.2.2))
 (some ((⟨25, 0, [], [v14.1, v19.1]⟩ : Q0), (IntKind.wrap .i64 (v14.2.1 + v19.2.1)), 0))) none) none))))))))
theorem Q4o {R_polyglotref17_Read : (List UInt8) → Int → Option (Q0 × Int × Int)} {R_polyglotref17_Data : Int → (List UInt8) → Int → Option (Q0 × Int × Int)} {R_polyglotref17_sized : Qf → (List UInt8) → Int → Option (Q0 × Int × Int)} {R_polyglotref17_next : Int → (List UInt8) → Int → Option (Q0 × Int × Int)} (hR_polyglotref17_Read : ∀ {s_0} {most} {r}, R_polyglotref17_Read s_0 most = some r → Qz Tryz.prog G1 18 [.str s_0, .int .i64 most] (.tuple [.agg (Q0.cells r.1), .int .i64 r.2.1, .int .i64 r.2.2])) (hR_polyglotref17_Data : ∀ {code} {s_1} {most} {r}, R_polyglotref17_Data code s_1 most = some r → Qz Tryz.prog G1 65 [.int .i64 code, .str s_1, .int .i64 most] (.tuple [.agg (Q0.cells r.1), .int .i64 r.2.1, .int .i64 r.2.2])) (hR_polyglotref17_sized : ∀ {c} {s_1} {most} {r}, R_polyglotref17_sized c s_1 most = some r → Qz Tryz.prog G1 98 [.agg (Qf.cells c), .str s_1, .int .i64 most] (.tuple [.agg (Q0.cells r.1), .int .i64 r.2.1, .int .i64 r.2.2])) (hR_polyglotref17_next : ∀ {code} {s_1} {most} {r}, R_polyglotref17_next code s_1 most = some r → Qz Tryz.prog G1 120 [.int .i64 code, .str s_1, .int .i64 most] (.tuple [.agg (Q0.cells r.1), .int .i64 r.2.1, .int .i64 r.2.2])) {N} {code} {s_1} {most} {r} (h : Xv R_polyglotref17_Read R_polyglotref17_Data R_polyglotref17_sized R_polyglotref17_next N code s_1 most = some r) : Qz Tryz.prog G1 65 [.int .i64 code, .str s_1, .int .i64 most] (.tuple [.agg (Q0.cells r.1), .int .i64 r.2.1, .int .i64 r.2.2]) := by
 refine Q4 k65 ?_
 unfold Xv at h
 apply iU h <;> intro h
 ·obtain rfl := Qc h; exact (Frz.tuple' (.cons q4n p2))
 ·apply iU h <;> intro h
  ·obtain rfl := Qc h; exact (Frz.tuple' (.cons q4n p2))
  ·refine cP h Yc p1 fun v3 h => ?_
   apply iU h <;> intro h
   ·obtain rfl := Qc h; exact (Frz.tuple' (.cons q4n p2))
   ·apply iU h <;> intro h
    ·refine cP h Q57 p2 fun v7 h => ?_
     obtain rfl := Qc h; exact (Frz.tuple' (.cons q4 p2))
    ·apply iU h <;> intro h
     ·obtain rfl := Qc h; exact (Frz.tuple' (.cons q4n p2))
     ·apply iU h <;> intro h
      ·refine cP h hR_polyglotref17_sized (.cons (Frz.agg' p5) p2) fun v11 h => ?_
       obtain rfl := Qc h; exact (Frz.tuple' (.cons q4 p2))
      ·apply iU h <;> intro h
       ·obtain rfl := Qc h; exact (Frz.tuple' (.cons q4n p2))
       ·refine cP h hR_polyglotref17_Read p2 fun v14 h => ?_
        apply iU h <;> intro h
        ·obtain rfl := Qc h; exact (Frz.tuple' (.cons q4n p2))
        ·refine kU h fun h => ?_
         refine kU h fun h => ?_
         refine cP h hR_polyglotref17_Read p2 fun v19 h => ?_
         apply iU h <;> intro h
         ·obtain rfl := Qc h; exact (Frz.tuple' (.cons q4n p2))
         ·obtain rfl := Qc h; exact (Frz.tuple' (.cons (Frz.agg' (.cons (.p _) (.cons (.p _) (.cons (.p _) (.cons (Q0.frz_own (l := [v14.1, v19.1]) rfl trivial (by simp)) .nil))))) p2))
def Vt (R_polyglotref17_next : Int → (List UInt8) → Int → Option (Q0 × Int × Int)) (N : Nat) (c : Qf) (most : Int) (v4 : Int) (v11 : Int) (b19 : UInt8) (v21 : Qf × Bool) : Nat → (List UInt8) → Int → (List Q0) → Option (Q0 × Int × Int)
 | 0, _, _, _ => none
 | n + 1, body44, i45, l46 =>
  cond (Q5 .lss i45 v11)
  ((R_polyglotref17_next (IntKind.wrap .i64 (b19.toNat : Int)) body44 (IntKind.wrap .i64 (most - 1))).bind fun v48 =>
  cond (Q5 .eql v48.2.2 3)
  (some ((⟨0, 0, [], []⟩ : Q0), 0, 5))
  (cond (Q5 .neq v48.2.2 0)
  (some ((⟨0, 0, [], []⟩ : Q0), 0, v48.2.2))
  (cond (Nat.ble ((l46.length + 1 + 4096) * 56) 17592186044416) (cond (decide (0 ≤ v48.2.1)) (cond (Nat.ble v48.2.1.toNat body44.length && Nat.ble body44.length body44.length) (Vt R_polyglotref17_next N c most v4 v11 b19 v21 n ((body44.take body44.length).drop v48.2.1.toNat) (IntKind.wrap .u64 (i45 + 1)) (l46 ++ [v48.1])) none) none) none)))
  (cond (Q36 .neq body44 [])
  (some ((⟨0, 0, [], []⟩ : Q0), 0, 5))
  ((Yd N l46).bind fun v56 =>
  cond v56
  (some ((⟨0, 0, [], []⟩ : Q0), 0, 16))
  (some ((⟨c.Kind, (IntKind.wrap .u64 v21.1.Kind), [], l46⟩ : Q0), (IntKind.wrap .i64 (c.Width + (IntKind.wrap .i64 v4))), 0))))
def Wn (R_polyglotref17_next : Int → (List UInt8) → Int → Option (Q0 × Int × Int)) (N : Nat) (c : Qf) (most : Int) (v4 : Int) (v11 : Int) : Nat → (List UInt8) → Int → (List Q0) → Option (Q0 × Int × Int)
 | 0, _, _, _ => none
 | n + 1, body77, i78, l79 =>
  cond (Q5 .lss i78 v11)
  ((R_polyglotref17_next (-1) body77 (IntKind.wrap .i64 (most - 1))).bind fun v81 =>
  cond (Q5 .eql v81.2.2 3)
  (some ((⟨0, 0, [], []⟩ : Q0), 0, 5))
  (cond (Q5 .neq v81.2.2 0)
  (some ((⟨0, 0, [], []⟩ : Q0), 0, v81.2.2))
  (cond (Nat.ble ((l79.length + 1 + 4096) * 56) 17592186044416) (cond (decide (0 ≤ v81.2.1)) (cond (Nat.ble v81.2.1.toNat body77.length && Nat.ble body77.length body77.length) (Wn R_polyglotref17_next N c most v4 v11 n ((body77.take body77.length).drop v81.2.1.toNat) (IntKind.wrap .u64 (i78 + 1)) (l79 ++ [v81.1])) none) none) none)))
  (cond (Q36 .neq body77 [])
  (some ((⟨0, 0, [], []⟩ : Q0), 0, 5))
  ((Yd N l79).bind fun v89 =>
  cond v89
  (some ((⟨0, 0, [], []⟩ : Q0), 0, 16))
  (some ((⟨c.Kind, 0, [], l79⟩ : Q0), (IntKind.wrap .i64 (c.Width + (IntKind.wrap .i64 v4))), 0))))
def Wp (R_polyglotref17_next : Int → (List UInt8) → Int → Option (Q0 × Int × Int)) (N : Nat) (c : Qf) (most : Int) (v4 : Int) (v11 : Int) (b94 : UInt8) (v96 : Qf × Bool) : Nat → (List UInt8) → Int → (List Q0) → Option (Q0 × Int × Int)
 | 0, _, _, _ => none
 | n + 1, body119, i120, l121 =>
  cond (Q5 .lss i120 v11)
  ((R_polyglotref17_next (IntKind.wrap .i64 (b94.toNat : Int)) body119 (IntKind.wrap .i64 (most - 1))).bind fun v123 =>
  cond (Q5 .eql v123.2.2 3)
  (some ((⟨0, 0, [], []⟩ : Q0), 0, 5))
  (cond (Q5 .neq v123.2.2 0)
  (some ((⟨0, 0, [], []⟩ : Q0), 0, v123.2.2))
  (cond (Nat.ble ((l121.length + 1 + 4096) * 56) 17592186044416) (cond (decide (0 ≤ v123.2.1)) (cond (Nat.ble v123.2.1.toNat body119.length && Nat.ble body119.length body119.length) (Wp R_polyglotref17_next N c most v4 v11 b94 v96 n ((body119.take body119.length).drop v123.2.1.toNat) (IntKind.wrap .u64 (i120 + 1)) (l121 ++ [v123.1])) none) none) none)))
  (cond (Q36 .neq body119 [])
  (some ((⟨0, 0, [], []⟩ : Q0), 0, 5))
  (some ((⟨c.Kind, (IntKind.wrap .u64 v96.1.Kind), [], l121⟩ : Q0), (IntKind.wrap .i64 (c.Width + (IntKind.wrap .i64 v4))), 0)))
def Wo (R_polyglotref17_next : Int → (List UInt8) → Int → Option (Q0 × Int × Int)) (N : Nat) (c : Qf) (most : Int) (v4 : Int) (v11 : Int) : Nat → (List UInt8) → Int → (List Q0) → Option (Q0 × Int × Int)
 | 0, _, _, _ => none
 | n + 1, body149, i150, l151 =>
  cond (Q5 .lss i150 v11)
  ((R_polyglotref17_next (-1) body149 (IntKind.wrap .i64 (most - 1))).bind fun v153 =>
  cond (Q5 .eql v153.2.2 3)
  (some ((⟨0, 0, [], []⟩ : Q0), 0, 5))
  (cond (Q5 .neq v153.2.2 0)
  (some ((⟨0, 0, [], []⟩ : Q0), 0, v153.2.2))
  (cond (Nat.ble ((l151.length + 1 + 4096) * 56) 17592186044416) (cond (decide (0 ≤ v153.2.1)) (cond (Nat.ble v153.2.1.toNat body149.length && Nat.ble body149.length body149.length) (Wo R_polyglotref17_next N c most v4 v11 n ((body149.take body149.length).drop v153.2.1.toNat) (IntKind.wrap .u64 (i150 + 1)) (l151 ++ [v153.1])) none) none) none)))
  (cond (Q36 .neq body149 [])
  (some ((⟨0, 0, [], []⟩ : Q0), 0, 5))
  (some ((⟨c.Kind, 0, [], l151⟩ : Q0), (IntKind.wrap .i64 (c.Width + (IntKind.wrap .i64 v4))), 0)))
def Wq (R_polyglotref17_Read : (List UInt8) → Int → Option (Q0 × Int × Int)) (R_polyglotref17_Data : Int → (List UInt8) → Int → Option (Q0 × Int × Int)) (R_polyglotref17_sized : Qf → (List UInt8) → Int → Option (Q0 × Int × Int)) (R_polyglotref17_next : Int → (List UInt8) → Int → Option (Q0 × Int × Int)) (N : Nat) (c : Qf) (s_1 : List UInt8) (most : Int) : Option (Q0 × Int × Int) :=
 cond (Q5 .lss (s_1.length : Int) c.Width)
 (some ((⟨0, 0, [], []⟩ : Q0), 0, 3))
 (cond (decide (0 ≤ c.Width)) (cond (Nat.ble 0 c.Width.toNat && Nat.ble c.Width.toNat s_1.length) ((Y3 N ((s_1.take c.Width.toNat).drop 0)).bind fun v4 =>
 cond (Q5 .gtr v4 (IntKind.wrap .u64 (IntKind.wrap .i64 ((s_1.length : Int) - c.Width))))
 (some ((⟨0, 0, [], []⟩ : Q0), 0, 3))
 (cond (decide (0 ≤ (IntKind.wrap .i64 (c.Width + (IntKind.wrap .i64 v4))))) (cond (Nat.ble c.Width.toNat ((IntKind.wrap .i64 (c.Width + (IntKind.wrap .i64 v4))).toNat) && Nat.ble ((IntKind.wrap .i64 (c.Width + (IntKind.wrap .i64 v4))).toNat) s_1.length) (cond (Q5 .lss (((s_1.take ((IntKind.wrap .i64 (c.Width + (IntKind.wrap .i64 v4))).toNat)).drop c.Width.toNat).length : Int) c.Width)
 (some ((⟨0, 0, [], []⟩ : Q0), 0, 5))
 (cond (Nat.ble 0 c.Width.toNat && Nat.ble c.Width.toNat ((s_1.take ((IntKind.wrap .i64 (c.Width + (IntKind.wrap .i64 v4))).toNat)).drop c.Width.toNat).length) ((Y3 N ((((s_1.take ((IntKind.wrap .i64 (c.Width + (IntKind.wrap .i64 v4))).toNat)).drop c.Width.toNat).take c.Width.toNat).drop 0)).bind fun v11 =>
 cond (Nat.ble c.Width.toNat (((s_1.take ((IntKind.wrap .i64 (c.Width + (IntKind.wrap .i64 v4))).toNat)).drop c.Width.toNat).length) && Nat.ble (((s_1.take ((IntKind.wrap .i64 (c.Width + (IntKind.wrap .i64 v4))).toNat)).drop c.Width.toNat).length) ((s_1.take ((IntKind.wrap .i64 (c.Width + (IntKind.wrap .i64 v4))).toNat)).drop c.Width.toNat).length) (cond (Q5 .gtr v11 1000)
 (some ((⟨0, 0, [], []⟩ : Q0), 0, 4))
 (cond (Q5 .eql c.Kind 23)
 (cond (Q5 .neq ((v11 : Int).tmod 2) 0)
 (some ((⟨0, 0, [], []⟩ : Q0), 0, 5))
 (cond (Q5 .eql c.Kind 24)
 (cond (Q36 .eql ((((s_1.take ((IntKind.wrap .i64 (c.Width + (IntKind.wrap .i64 v4))).toNat)).drop c.Width.toNat).take (((s_1.take ((IntKind.wrap .i64 (c.Width + (IntKind.wrap .i64 v4))).toNat)).drop c.Width.toNat).length)).drop c.Width.toNat) [])
 (some ((⟨0, 0, [], []⟩ : Q0), 0, 5))
 ((idx ((((s_1.take ((IntKind.wrap .i64 (c.Width + (IntKind.wrap .i64 v4))).toNat)).drop c.Width.toNat).take (((s_1.take ((IntKind.wrap .i64 (c.Width + (IntKind.wrap .i64 v4))).toNat)).drop c.Width.toNat).length)).drop c.Width.toNat) 0).bind fun b19 =>
 (Zi N (IntKind.wrap .i64 (b19.toNat : Int))).bind fun v21 =>
 cond (!v21.2)
 (some ((⟨0, 0, [], []⟩ : Q0), 0, 8))
 (cond (Q5 .eql (IntKind.wrap .i64 (b19.toNat : Int)) 0)
 (some ((⟨0, 0, [], []⟩ : Q0), 0, 8))
 (cond (Nat.ble 1 (((((s_1.take ((IntKind.wrap .i64 (c.Width + (IntKind.wrap .i64 v4))).toNat)).drop c.Width.toNat).take (((s_1.take ((IntKind.wrap .i64 (c.Width + (IntKind.wrap .i64 v4))).toNat)).drop c.Width.toNat).length)).drop c.Width.toNat).length) && Nat.ble (((((s_1.take ((IntKind.wrap .i64 (c.Width + (IntKind.wrap .i64 v4))).toNat)).drop c.Width.toNat).take (((s_1.take ((IntKind.wrap .i64 (c.Width + (IntKind.wrap .i64 v4))).toNat)).drop c.Width.toNat).length)).drop c.Width.toNat).length) ((((s_1.take ((IntKind.wrap .i64 (c.Width + (IntKind.wrap .i64 v4))).toNat)).drop c.Width.toNat).take (((s_1.take ((IntKind.wrap .i64 (c.Width + (IntKind.wrap .i64 v4))).toNat)).drop c.Width.toNat).length)).drop c.Width.toNat).length) (Vt R_polyglotref17_next N c most v4 v11 b19 v21 N ((((((s_1.take ((IntKind.wrap .i64 (c.Width + (IntKind.wrap .i64 v4))).toNat)).drop c.Width.toNat).take (((s_1.take ((IntKind.wrap .i64 (c.Width + (IntKind.wrap .i64 v4))).toNat)).drop c.Width.toNat).length)).drop c.Width.toNat).take (((((s_1.take ((IntKind.wrap .i64 (c.Width + (IntKind.wrap .i64 v4))).toNat)).drop c.Width.toNat).take (((s_1.take ((IntKind.wrap .i64 (c.Width + (IntKind.wrap .i64 v4))).toNat)).drop c.Width.toNat).length)).drop c.Width.toNat).length)).drop 1) 0 []) none))))
 (Wn R_polyglotref17_next N c most v4 v11 N ((((s_1.take ((IntKind.wrap .i64 (c.Width + (IntKind.wrap .i64 v4))).toNat)).drop c.Width.toNat).take (((s_1.take ((IntKind.wrap .i64 (c.Width + (IntKind.wrap .i64 v4))).toNat)).drop c.Width.toNat).length)).drop c.Width.toNat) 0 [])))
 (cond (Q5 .eql c.Kind 24)
 (cond (Q36 .eql ((((s_1.take ((IntKind.wrap .i64 (c.Width + (IntKind.wrap .i64 v4))).toNat)).drop c.Width.toNat).take (((s_1.take ((IntKind.wrap .i64 (c.Width + (IntKind.wrap .i64 v4))).toNat)).drop c.Width.toNat).length)).drop c.Width.toNat) [])
 (some ((⟨0, 0, [], []⟩ : Q0), 0, 5))
 ((idx ((((s_1.take ((IntKind.wrap .i64 (c.Width + (IntKind.wrap .i64 v4))).toNat)).drop c.Width.toNat).take (((s_1.take ((IntKind.wrap .i64 (c.Width + (IntKind.wrap .i64 v4))).toNat)).drop c.Width.toNat).length)).drop c.Width.toNat) 0).bind fun b94 =>
 (Zi N (IntKind.wrap .i64 (b94.toNat : Int))).bind fun v96 =>
 cond (!v96.2)
 (some ((⟨0, 0, [], []⟩ : Q0), 0, 8))
 (cond (Q5 .eql (IntKind.wrap .i64 (b94.toNat : Int)) 0)
 (some ((⟨0, 0, [], []⟩ : Q0), 0, 8))
 (cond (Nat.ble 1 (((((s_1.take ((IntKind.wrap .i64 (c.Width + (IntKind.wrap .i64 v4))).toNat)).drop c.Width.toNat).take (((s_1.take ((IntKind.wrap .i64 (c.Width + (IntKind.wrap .i64 v4))).toNat)).drop c.Width.toNat).length)).drop c.Width.toNat).length) && Nat.ble (((((s_1.take ((IntKind.wrap .i64 (c.Width + (IntKind.wrap .i64 v4))).toNat)).drop c.Width.toNat).take (((s_1.take ((IntKind.wrap .i64 (c.Width + (IntKind.wrap .i64 v4))).toNat)).drop c.Width.toNat).length)).drop c.Width.toNat).length) ((((s_1.take ((IntKind.wrap .i64 (c.Width + (IntKind.wrap .i64 v4))).toNat)).drop c.Width.toNat).take (((s_1.take ((IntKind.wrap .i64 (c.Width + (IntKind.wrap .i64 v4))).toNat)).drop c.Width.toNat).length)).drop c.Width.toNat).length) (Wp R_polyglotref17_next N c most v4 v11 b94 v96 N ((((((s_1.take ((IntKind.wrap .i64 (c.Width + (IntKind.wrap .i64 v4))).toNat)).drop c.Width.toNat).take (((s_1.take ((IntKind.wrap .i64 (c.Width + (IntKind.wrap .i64 v4))).toNat)).drop c.Width.toNat).length)).drop c.Width.toNat).take (((((s_1.take ((IntKind.wrap .i64 (c.Width + (IntKind.wrap .i64 v4))).toNat)).drop c.Width.toNat).take (((s_1.take ((IntKind.wrap .i64 (c.Width + (IntKind.wrap .i64 v4))).toNat)).drop c.Width.toNat).length)).drop c.Width.toNat).length)).drop 1) 0 []) none))))
 (Wo R_polyglotref17_next N c most v4 v11 N ((((s_1.take ((IntKind.wrap .i64 (c.Width + (IntKind.wrap .i64 v4))).toNat)).drop c.Width.toNat).take (((s_1.take ((IntKind.wrap .i64 (c.Width + (IntKind.wrap .i64 v4))).toNat)).drop c.Width.toNat).length)).drop c.Width.toNat) 0 [])))) none) none)) none) none)) none) none)
theorem Q3y {R_polyglotref17_Read : (List UInt8) → Int → Option (Q0 × Int × Int)} {R_polyglotref17_Data : Int → (List UInt8) → Int → Option (Q0 × Int × Int)} {R_polyglotref17_sized : Qf → (List UInt8) → Int → Option (Q0 × Int × Int)} {R_polyglotref17_next : Int → (List UInt8) → Int → Option (Q0 × Int × Int)} (hR_polyglotref17_Read : ∀ {s_0} {most} {r}, R_polyglotref17_Read s_0 most = some r → Qz Tryz.prog G1 18 [.str s_0, .int .i64 most] (.tuple [.agg (Q0.cells r.1), .int .i64 r.2.1, .int .i64 r.2.2])) (hR_polyglotref17_Data : ∀ {code} {s_1} {most} {r}, R_polyglotref17_Data code s_1 most = some r → Qz Tryz.prog G1 65 [.int .i64 code, .str s_1, .int .i64 most] (.tuple [.agg (Q0.cells r.1), .int .i64 r.2.1, .int .i64 r.2.2])) (hR_polyglotref17_sized : ∀ {c} {s_1} {most} {r}, R_polyglotref17_sized c s_1 most = some r → Qz Tryz.prog G1 98 [.agg (Qf.cells c), .str s_1, .int .i64 most] (.tuple [.agg (Q0.cells r.1), .int .i64 r.2.1, .int .i64 r.2.2])) (hR_polyglotref17_next : ∀ {code} {s_1} {most} {r}, R_polyglotref17_next code s_1 most = some r → Qz Tryz.prog G1 120 [.int .i64 code, .str s_1, .int .i64 most] (.tuple [.agg (Q0.cells r.1), .int .i64 r.2.1, .int .i64 r.2.2])) {N} {c} {s_1} {most} {r} (h : Wq R_polyglotref17_Read R_polyglotref17_Data R_polyglotref17_sized R_polyglotref17_next N c s_1 most = some r) : Qz Tryz.prog G1 98 [.agg (Qf.cells c), .str s_1, .int .i64 most] (.tuple [.agg (Q0.cells r.1), .int .i64 r.2.1, .int .i64 r.2.2]) := by
 refine Q4 k98 ?_
 unfold Wq at h
 apply iU h <;> intro h
 ·obtain rfl := Qc h; exact (Frz.tuple' (.cons q4n p2))
 ·obtain ⟨hk2, h⟩ := Q7i h
  refine Q3q hk2 ?_
  refine kU h fun h => ?_
  refine cP h Vi p1 fun v4 h => ?_
  apply iU h <;> intro h
  ·obtain rfl := Qc h; exact (Frz.tuple' (.cons q4n p2))
  ·refine Q3q hk2 ?_
   refine kU h fun h => ?_
   refine kU h fun h => ?_
   apply iU h <;> intro h
   ·obtain rfl := Qc h; exact (Frz.tuple' (.cons q4n p2))
   ·refine Q3q hk2 ?_
    refine kU h fun h => ?_
    refine cP h Vi p1 fun v11 h => ?_
    refine Q3q hk2 ?_
    refine kU h fun h => ?_
    apply iU h <;> intro h
    ·obtain rfl := Qc h; exact (Frz.tuple' (.cons q4n p2))
    ·refine ifO h (fun hc15 h => ?_) (fun hc15 h => ?_)
     ·apply iU h <;> intro h
      ·obtain rfl := Qc h; exact (Frz.tuple' (.cons q4n p2))
      ·refine ifO h (fun hc17 h => ?_) (fun hc17 h => ?_)
       ·apply iU h <;> intro h
        ·obtain rfl := Qc h; exact (Frz.tuple' (.cons q4n p2))
        ·refine ifT hc17 ?_
         refine xB h fun b19 h => ?_
         refine cP h Yc p1 fun v21 h => ?_
         apply iU h <;> intro h
         ·obtain rfl := Qc h; exact (Frz.tuple' (.cons q4n p2))
         ·apply iU h <;> intro h
          ·obtain rfl := Qc h; exact (Frz.tuple' (.cons q4n p2))
          ·refine Qe ?_
           refine kU h fun h => ?_
           refine lpC (τ := (List UInt8) × Int × (List Q0)) (fun ⟨body44, i45, _⟩ => (.any :: .any :: iI most :: .ptr 0 0 :: .any :: .any :: .ptr 1 0 :: a4 (.p (.int .i64 (IntKind.wrap .i64 (c.Width + (IntKind.wrap .i64 v4)))) :: iS body44 :: iW v11 :: .ptr 2 0 :: iI (IntKind.wrap .i64 (b19.toNat : Int)) :: .any :: .any :: iW i45 :: a16 (a16 (a16 (a16 (a16 (a16 (a16 (a16 (a8 ([])))))))))) : List AV)) (fun ⟨_, _, l46⟩ => (.cells (iI c.Code :: iI c.Kind :: iI c.Width :: .p (.bool c.Sized) :: .p (.bool c.Items) :: []) :: .cells (iI 0 :: iW 0 :: iS [] :: .p .nilSlice :: []) :: .cells (iI c.Kind :: iW (IntKind.wrap .u64 v21.1.Kind) :: iS [] :: .slice 4 4 0 l46.length :: []) :: .cells (iI v21.1.Code :: iI v21.1.Kind :: iI v21.1.Width :: .p (.bool v21.1.Sized) :: .p (.bool v21.1.Items) :: []) :: .cells (Wt Q0.cells l46) :: [] : List AObj)) (fun n0 ⟨body44, i45, l46⟩ => Vt R_polyglotref17_next N c most v4 v11 b19 v21 n0 body44 i45 l46) (((((((s_1.take ((IntKind.wrap .i64 (c.Width + (IntKind.wrap .i64 v4))).toNat)).drop c.Width.toNat).take (((s_1.take ((IntKind.wrap .i64 (c.Width + (IntKind.wrap .i64 v4))).toNat)).drop c.Width.toNat).length)).drop c.Width.toNat).take (((((s_1.take ((IntKind.wrap .i64 (c.Width + (IntKind.wrap .i64 v4))).toNat)).drop c.Width.toNat).take (((s_1.take ((IntKind.wrap .i64 (c.Width + (IntKind.wrap .i64 v4))).toNat)).drop c.Width.toNat).length)).drop c.Width.toNat).length)).drop 1), 0, []) h (fun i => i) ⟨(rW <| rE rfl <| rE rfl <| rW <| rE rfl <| rV <| rE rfl <| rE rfl <| rE rfl <| rE rfl <| rE rfl <| rW <| rE rfl <| rX <| rX <| rX <| rX <| rX <| rX <| rX <| rX <| rX <| rX <| rX <| rX <| rX <| rX <| rX <| rX <| rX <| rN), (hE rfl <| hE rfl <| hC rfl (rE rfl <| rE rfl <| rE rfl <| rS <| rN) <| hE rfl <| hV lb <| hN), rfl, rfl, (roE rfl <| roE rfl <| roE rfl <| roE rfl <| roE (Qd _ _ _) <| roN)⟩ fun n0 ⟨body44, i45, l46⟩ h => ?_
           simp only [Vt] at h
           apply iU h <;> intro h
           ·refine cP h hR_polyglotref17_next p3 fun v48 h => ?_
            apply iU h <;> intro h
            ·refine ifT (by unfold Q5; decide) ?_
             obtain rfl := Qc h; exact (Frz.tuple' (.cons q4n p2))
            ·apply iU h <;> intro h
             ·obtain rfl := Qc h; exact (Frz.tuple' (.cons q4n p2))
             ·refine Qe ?_
              obtain ⟨hk52, h⟩ := Q7i h
              refine Q3q (Vr (c := Q0.cells) (e := 4) (fun _ => rfl) (by simp) hk52) ?_
              refine Jm (c := Q0.cells) [v48.1] rfl ?_
              refine kU h fun h => ?_
              refine kU h fun h => ?_
              show Exists _
              exact ⟨(n0, ((body44.take body44.length).drop v48.2.1.toNat), (IntKind.wrap .u64 (i45 + 1)), (l46 ++ [v48.1])), h, Nat.lt_succ_self _, (rho [0, 1, 2, 3, 7]), ⟨(rW <| rE rfl <| rE rfl <| rW <| rE rfl <| rV <| rE rfl <| rE rfl <| rE rfl <| rE rfl <| rE rfl <| rW <| rE rfl <| rX <| rX <| rX <| rX <| rX <| rX <| rX <| rX <| rX <| rX <| rX <| rX <| rX <| rX <| rX <| rX <| rX <| rN), (hE rfl <| hE rfl <| hC rfl (rE rfl <| rE rfl <| rE rfl <| rL (by simp) rfl <| rN) <| hE rfl <| hO rfl <| hN), rfl, rfl, (roE rfl <| roE rfl <| roE rfl <| roE rfl <| roE (Qd _ _ _) <| roN)⟩⟩
           ·apply iU h <;> intro h
            ·obtain rfl := Qc h; exact (Frz.tuple' (.cons q4n p2))
            ·refine ifT hc15 ?_
             refine cK h Jj (.cons (Q0.frz_own (l := l46) rfl trivial (by simp)) .nil) fun v56 h => ?_
             apply iU h <;> intro h
             ·obtain rfl := Qc h; exact (Frz.tuple' (.cons q4n p2))
             ·obtain rfl := Qc h; exact (Frz.tuple' (.cons (Frz.agg' (.cons (.p _) (.cons (.p _) (.cons (.p _) (.cons (Q0.frz_own (l := l46) rfl trivial (by simp)) .nil))))) p2))
       ·refine ifF hc17 ?_
        refine lpC (τ := (List UInt8) × Int × (List Q0)) (fun ⟨body77, i78, _⟩ => (.any :: .any :: iI most :: .ptr 0 0 :: .any :: .any :: .ptr 1 0 :: a4 (.p (.int .i64 (IntKind.wrap .i64 (c.Width + (IntKind.wrap .i64 v4)))) :: iS body77 :: iW v11 :: .ptr 2 0 :: iI (-1) :: .any :: .any :: iW i78 :: a16 (a16 (a16 (a16 (a16 (a16 (a16 (a16 (a8 ([])))))))))) : List AV)) (fun ⟨_, _, l79⟩ => (.cells (iI c.Code :: iI c.Kind :: iI c.Width :: .p (.bool c.Sized) :: .p (.bool c.Items) :: []) :: .cells (iI 0 :: iW 0 :: iS [] :: .p .nilSlice :: []) :: .cells (iI c.Kind :: iW 0 :: iS [] :: .slice 4 3 0 l79.length :: []) :: .cells (Wt Q0.cells l79) :: [] : List AObj)) (fun n1 ⟨body77, i78, l79⟩ => Wn R_polyglotref17_next N c most v4 v11 n1 body77 i78 l79) (((((s_1.take ((IntKind.wrap .i64 (c.Width + (IntKind.wrap .i64 v4))).toNat)).drop c.Width.toNat).take (((s_1.take ((IntKind.wrap .i64 (c.Width + (IntKind.wrap .i64 v4))).toNat)).drop c.Width.toNat).length)).drop c.Width.toNat), 0, []) h (fun i => i) ⟨(rW <| rE rfl <| rE rfl <| rW <| rE rfl <| rV <| rE rfl <| rE rfl <| rE rfl <| rE rfl <| rE rfl <| rW <| rE rfl <| rX <| rX <| rX <| rX <| rX <| rX <| rX <| rX <| rX <| rX <| rX <| rX <| rX <| rX <| rX <| rX <| rX <| rN), (hE rfl <| hE rfl <| hC rfl (rE rfl <| rE rfl <| rE rfl <| rS <| rN) <| hV lb <| hN), rfl, rfl, (roE rfl <| roE rfl <| roE rfl <| roE (Qd _ _ _) <| roN)⟩ fun n1 ⟨body77, i78, l79⟩ h => ?_
        simp only [Wn] at h
        apply iU h <;> intro h
        ·refine cP h hR_polyglotref17_next p3 fun v81 h => ?_
         apply iU h <;> intro h
         ·refine ifT (by unfold Q5; decide) ?_
          obtain rfl := Qc h; exact (Frz.tuple' (.cons q4n p2))
         ·apply iU h <;> intro h
          ·obtain rfl := Qc h; exact (Frz.tuple' (.cons q4n p2))
          ·refine Qe ?_
           obtain ⟨hk85, h⟩ := Q7i h
           refine Q3q (Vr (c := Q0.cells) (e := 4) (fun _ => rfl) (by simp) hk85) ?_
           refine Jm (c := Q0.cells) [v81.1] rfl ?_
           refine kU h fun h => ?_
           refine kU h fun h => ?_
           show Exists _
           exact ⟨(n1, ((body77.take body77.length).drop v81.2.1.toNat), (IntKind.wrap .u64 (i78 + 1)), (l79 ++ [v81.1])), h, Nat.lt_succ_self _, (rho [0, 1, 2, 6]), ⟨(rW <| rE rfl <| rE rfl <| rW <| rE rfl <| rV <| rE rfl <| rE rfl <| rE rfl <| rE rfl <| rE rfl <| rW <| rE rfl <| rX <| rX <| rX <| rX <| rX <| rX <| rX <| rX <| rX <| rX <| rX <| rX <| rX <| rX <| rX <| rX <| rX <| rN), (hE rfl <| hE rfl <| hC rfl (rE rfl <| rE rfl <| rE rfl <| rL (by simp) rfl <| rN) <| hO rfl <| hN), rfl, rfl, (roE rfl <| roE rfl <| roE rfl <| roE (Qd _ _ _) <| roN)⟩⟩
        ·apply iU h <;> intro h
         ·obtain rfl := Qc h; exact (Frz.tuple' (.cons q4n p2))
         ·refine ifT hc15 ?_
          refine cK h Jj (.cons (Q0.frz_own (l := l79) rfl trivial (by simp)) .nil) fun v89 h => ?_
          apply iU h <;> intro h
          ·obtain rfl := Qc h; exact (Frz.tuple' (.cons q4n p2))
          ·obtain rfl := Qc h; exact (Frz.tuple' (.cons (Frz.agg' (.cons (.p _) (.cons (.p _) (.cons (.p _) (.cons (Q0.frz_own (l := l79) rfl trivial (by simp)) .nil))))) p2))
     ·refine ifO h (fun hc92 h => ?_) (fun hc92 h => ?_)
      ·apply iU h <;> intro h
       ·obtain rfl := Qc h; exact (Frz.tuple' (.cons q4n p2))
       ·refine ifT hc92 ?_
        refine xB h fun b94 h => ?_
        refine cP h Yc p1 fun v96 h => ?_
        apply iU h <;> intro h
        ·obtain rfl := Qc h; exact (Frz.tuple' (.cons q4n p2))
        ·apply iU h <;> intro h
         ·obtain rfl := Qc h; exact (Frz.tuple' (.cons q4n p2))
         ·refine Qe ?_
          refine kU h fun h => ?_
          refine lpC (τ := (List UInt8) × Int × (List Q0)) (fun ⟨body119, i120, _⟩ => (.any :: .any :: iI most :: .ptr 0 0 :: .any :: .any :: .ptr 1 0 :: a4 (.p (.int .i64 (IntKind.wrap .i64 (c.Width + (IntKind.wrap .i64 v4)))) :: iS body119 :: iW v11 :: .ptr 2 0 :: iI (IntKind.wrap .i64 (b94.toNat : Int)) :: .any :: .any :: iW i120 :: a16 (a16 (a16 (a16 (a16 (a16 (a16 (a16 (a8 ([])))))))))) : List AV)) (fun ⟨_, _, l121⟩ => (.cells (iI c.Code :: iI c.Kind :: iI c.Width :: .p (.bool c.Sized) :: .p (.bool c.Items) :: []) :: .cells (iI 0 :: iW 0 :: iS [] :: .p .nilSlice :: []) :: .cells (iI c.Kind :: iW (IntKind.wrap .u64 v96.1.Kind) :: iS [] :: .slice 4 4 0 l121.length :: []) :: .cells (iI v96.1.Code :: iI v96.1.Kind :: iI v96.1.Width :: .p (.bool v96.1.Sized) :: .p (.bool v96.1.Items) :: []) :: .cells (Wt Q0.cells l121) :: [] : List AObj)) (fun n2 ⟨body119, i120, l121⟩ => Wp R_polyglotref17_next N c most v4 v11 b94 v96 n2 body119 i120 l121) (((((((s_1.take ((IntKind.wrap .i64 (c.Width + (IntKind.wrap .i64 v4))).toNat)).drop c.Width.toNat).take (((s_1.take ((IntKind.wrap .i64 (c.Width + (IntKind.wrap .i64 v4))).toNat)).drop c.Width.toNat).length)).drop c.Width.toNat).take (((((s_1.take ((IntKind.wrap .i64 (c.Width + (IntKind.wrap .i64 v4))).toNat)).drop c.Width.toNat).take (((s_1.take ((IntKind.wrap .i64 (c.Width + (IntKind.wrap .i64 v4))).toNat)).drop c.Width.toNat).length)).drop c.Width.toNat).length)).drop 1), 0, []) h (fun i => i) ⟨(rW <| rE rfl <| rE rfl <| rW <| rE rfl <| rV <| rE rfl <| rE rfl <| rE rfl <| rE rfl <| rE rfl <| rW <| rE rfl <| rX <| rX <| rX <| rX <| rX <| rX <| rX <| rX <| rX <| rX <| rX <| rX <| rX <| rX <| rX <| rX <| rX <| rN), (hE rfl <| hE rfl <| hC rfl (rE rfl <| rE rfl <| rE rfl <| rS <| rN) <| hE rfl <| hV lb <| hN), rfl, rfl, (roE rfl <| roE rfl <| roE rfl <| roE rfl <| roE (Qd _ _ _) <| roN)⟩ fun n2 ⟨body119, i120, l121⟩ h => ?_
          simp only [Wp] at h
          apply iU h <;> intro h
          ·refine cP h hR_polyglotref17_next p3 fun v123 h => ?_
           apply iU h <;> intro h
           ·refine ifT (by unfold Q5; decide) ?_
            obtain rfl := Qc h; exact (Frz.tuple' (.cons q4n p2))
           ·apply iU h <;> intro h
            ·obtain rfl := Qc h; exact (Frz.tuple' (.cons q4n p2))
            ·refine Qe ?_
             obtain ⟨hk127, h⟩ := Q7i h
             refine Q3q (Vr (c := Q0.cells) (e := 4) (fun _ => rfl) (by simp) hk127) ?_
             refine Jm (c := Q0.cells) [v123.1] rfl ?_
             refine kU h fun h => ?_
             refine kU h fun h => ?_
             show Exists _
             exact ⟨(n2, ((body119.take body119.length).drop v123.2.1.toNat), (IntKind.wrap .u64 (i120 + 1)), (l121 ++ [v123.1])), h, Nat.lt_succ_self _, (rho [0, 1, 2, 3, 7]), ⟨(rW <| rE rfl <| rE rfl <| rW <| rE rfl <| rV <| rE rfl <| rE rfl <| rE rfl <| rE rfl <| rE rfl <| rW <| rE rfl <| rX <| rX <| rX <| rX <| rX <| rX <| rX <| rX <| rX <| rX <| rX <| rX <| rX <| rX <| rX <| rX <| rX <| rN), (hE rfl <| hE rfl <| hC rfl (rE rfl <| rE rfl <| rE rfl <| rL (by simp) rfl <| rN) <| hE rfl <| hO rfl <| hN), rfl, rfl, (roE rfl <| roE rfl <| roE rfl <| roE rfl <| roE (Qd _ _ _) <| roN)⟩⟩
          ·apply iU h <;> intro h
           ·obtain rfl := Qc h; exact (Frz.tuple' (.cons q4n p2))
           ·refine ifF hc15 ?_
            obtain rfl := Qc h; exact (Frz.tuple' (.cons (Frz.agg' (.cons (.p _) (.cons (.p _) (.cons (.p _) (.cons (Q0.frz_own (l := l121) rfl trivial (by simp)) .nil))))) p2))
      ·refine ifF hc92 ?_
       refine lpC (τ := (List UInt8) × Int × (List Q0)) (fun ⟨body149, i150, _⟩ => (.any :: .any :: iI most :: .ptr 0 0 :: .any :: .any :: .ptr 1 0 :: a4 (.p (.int .i64 (IntKind.wrap .i64 (c.Width + (IntKind.wrap .i64 v4)))) :: iS body149 :: iW v11 :: .ptr 2 0 :: iI (-1) :: .any :: .any :: iW i150 :: a16 (a16 (a16 (a16 (a16 (a16 (a16 (a16 (a8 ([])))))))))) : List AV)) (fun ⟨_, _, l151⟩ => (.cells (iI c.Code :: iI c.Kind :: iI c.Width :: .p (.bool c.Sized) :: .p (.bool c.Items) :: []) :: .cells (iI 0 :: iW 0 :: iS [] :: .p .nilSlice :: []) :: .cells (iI c.Kind :: iW 0 :: iS [] :: .slice 4 3 0 l151.length :: []) :: .cells (Wt Q0.cells l151) :: [] : List AObj)) (fun n3 ⟨body149, i150, l151⟩ => Wo R_polyglotref17_next N c most v4 v11 n3 body149 i150 l151) (((((s_1.take ((IntKind.wrap .i64 (c.Width + (IntKind.wrap .i64 v4))).toNat)).drop c.Width.toNat).take (((s_1.take ((IntKind.wrap .i64 (c.Width + (IntKind.wrap .i64 v4))).toNat)).drop c.Width.toNat).length)).drop c.Width.toNat), 0, []) h (fun i => i) ⟨(rW <| rE rfl <| rE rfl <| rW <| rE rfl <| rV <| rE rfl <| rE rfl <| rE rfl <| rE rfl <| rE rfl <| rW <| rE rfl <| rX <| rX <| rX <| rX <| rX <| rX <| rX <| rX <| rX <| rX <| rX <| rX <| rX <| rX <| rX <| rX <| rX <| rN), (hE rfl <| hE rfl <| hC rfl (rE rfl <| rE rfl <| rE rfl <| rS <| rN) <| hV lb <| hN), rfl, rfl, (roE rfl <| roE rfl <| roE rfl <| roE (Qd _ _ _) <| roN)⟩ fun n3 ⟨body149, i150, l151⟩ h => ?_
       simp only [Wo] at h
       apply iU h <;> intro h
       ·refine cP h hR_polyglotref17_next p3 fun v153 h => ?_
        apply iU h <;> intro h
        ·refine ifT (by unfold Q5; decide) ?_
         obtain rfl := Qc h; exact (Frz.tuple' (.cons q4n p2))
        ·apply iU h <;> intro h
         ·obtain rfl := Qc h; exact (Frz.tuple' (.cons q4n p2))
         ·refine Qe ?_
          obtain ⟨hk157, h⟩ := Q7i h
          refine Q3q (Vr (c := Q0.cells) (e := 4) (fun _ => rfl) (by simp) hk157) ?_
          refine Jm (c := Q0.cells) [v153.1] rfl ?_
          refine kU h fun h => ?_
          refine kU h fun h => ?_
          show Exists _
          exact ⟨(n3, ((body149.take body149.length).drop v153.2.1.toNat), (IntKind.wrap .u64 (i150 + 1)), (l151 ++ [v153.1])), h, Nat.lt_succ_self _, (rho [0, 1, 2, 6]), ⟨(rW <| rE rfl <| rE rfl <| rW <| rE rfl <| rV <| rE rfl <| rE rfl <| rE rfl <| rE rfl <| rE rfl <| rW <| rE rfl <| rX <| rX <| rX <| rX <| rX <| rX <| rX <| rX <| rX <| rX <| rX <| rX <| rX <| rX <| rX <| rX <| rX <| rN), (hE rfl <| hE rfl <| hC rfl (rE rfl <| rE rfl <| rE rfl <| rL (by simp) rfl <| rN) <| hO rfl <| hN), rfl, rfl, (roE rfl <| roE rfl <| roE rfl <| roE (Qd _ _ _) <| roN)⟩⟩
       ·apply iU h <;> intro h
        ·obtain rfl := Qc h; exact (Frz.tuple' (.cons q4n p2))
        ·refine ifF hc15 ?_
         obtain rfl := Qc h; exact (Frz.tuple' (.cons (Frz.agg' (.cons (.p _) (.cons (.p _) (.cons (.p _) (.cons (Q0.frz_own (l := l151) rfl trivial (by simp)) .nil))))) p2))
def Xt (R_polyglotref17_Read : (List UInt8) → Int → Option (Q0 × Int × Int)) (R_polyglotref17_Data : Int → (List UInt8) → Int → Option (Q0 × Int × Int)) (R_polyglotref17_sized : Qf → (List UInt8) → Int → Option (Q0 × Int × Int)) (R_polyglotref17_next : Int → (List UInt8) → Int → Option (Q0 × Int × Int)) (_N : Nat) (code : Int) (s_1 : List UInt8) (most : Int) : Option (Q0 × Int × Int) :=
 cond (Q5 .lss code 0)
 ((R_polyglotref17_Read s_1 most).bind fun v2 =>
 some (v2.1, v2.2.1, v2.2.2))
 ((R_polyglotref17_Data code s_1 most).bind fun v4 =>
 some (v4.1, v4.2.1, v4.2.2))
theorem Q4r {R_polyglotref17_Read : (List UInt8) → Int → Option (Q0 × Int × Int)} {R_polyglotref17_Data : Int → (List UInt8) → Int → Option (Q0 × Int × Int)} {R_polyglotref17_sized : Qf → (List UInt8) → Int → Option (Q0 × Int × Int)} {R_polyglotref17_next : Int → (List UInt8) → Int → Option (Q0 × Int × Int)} (hR_polyglotref17_Read : ∀ {s_0} {most} {r}, R_polyglotref17_Read s_0 most = some r → Qz Tryz.prog G1 18 [.str s_0, .int .i64 most] (.tuple [.agg (Q0.cells r.1), .int .i64 r.2.1, .int .i64 r.2.2])) (hR_polyglotref17_Data : ∀ {code} {s_1} {most} {r}, R_polyglotref17_Data code s_1 most = some r → Qz Tryz.prog G1 65 [.int .i64 code, .str s_1, .int .i64 most] (.tuple [.agg (Q0.cells r.1), .int .i64 r.2.1, .int .i64 r.2.2])) (hR_polyglotref17_sized : ∀ {c} {s_1} {most} {r}, R_polyglotref17_sized c s_1 most = some r → Qz Tryz.prog G1 98 [.agg (Qf.cells c), .str s_1, .int .i64 most] (.tuple [.agg (Q0.cells r.1), .int .i64 r.2.1, .int .i64 r.2.2])) (hR_polyglotref17_next : ∀ {code} {s_1} {most} {r}, R_polyglotref17_next code s_1 most = some r → Qz Tryz.prog G1 120 [.int .i64 code, .str s_1, .int .i64 most] (.tuple [.agg (Q0.cells r.1), .int .i64 r.2.1, .int .i64 r.2.2])) {N} {code} {s_1} {most} {r} (h : Xt R_polyglotref17_Read R_polyglotref17_Data R_polyglotref17_sized R_polyglotref17_next N code s_1 most = some r) : Qz Tryz.prog G1 120 [.int .i64 code, .str s_1, .int .i64 most] (.tuple [.agg (Q0.cells r.1), .int .i64 r.2.1, .int .i64 r.2.2]) := by
 refine Q4 Qz2 ?_
 unfold Xt at h
 apply iU h <;> intro h
 ·refine cP h hR_polyglotref17_Read p2 fun v2 h => ?_
  obtain rfl := Qc h; exact (Frz.tuple' (.cons q4 p2))
 ·refine cP h hR_polyglotref17_Data p3 fun v4 h => ?_
  obtain rfl := Qc h; exact (Frz.tuple' (.cons q4 p2))
def Qb : Nat → ((List UInt8) → Int → Option (Q0 × Int × Int)) × (Int → (List UInt8) → Int → Option (Q0 × Int × Int)) × (Qf → (List UInt8) → Int → Option (Q0 × Int × Int)) × (Int → (List UInt8) → Int → Option (Q0 × Int × Int))
 | 0 => (fun _ _ => none, fun _ _ _ => none, fun _ _ _ => none, fun _ _ _ => none)
 | N + 1 => (Xw ((Qb N).1) ((Qb N).2.1) ((Qb N).2.2.1) ((Qb N).2.2.2) N, Xv ((Qb N).1) ((Qb N).2.1) ((Qb N).2.2.1) ((Qb N).2.2.2) N, Wq ((Qb N).1) ((Qb N).2.1) ((Qb N).2.2.1) ((Qb N).2.2.2) N, Xt ((Qb N).1) ((Qb N).2.1) ((Qb N).2.2.1) ((Qb N).2.2.2) N)
def Qu (N : Nat) : (List UInt8) → Int → Option (Q0 × Int × Int) := (Qb N).1
def Y6 (N : Nat) : Int → (List UInt8) → Int → Option (Q0 × Int × Int) := (Qb N).2.1
def X6 (N : Nat) : Qf → (List UInt8) → Int → Option (Q0 × Int × Int) := (Qb N).2.2.1
def Xq (N : Nat) : Int → (List UInt8) → Int → Option (Q0 × Int × Int) := (Qb N).2.2.2
theorem Q44 : ∀ N, (∀ {s_0 : List UInt8} {most : Int} {r : Q0 × Int × Int}, (Qb N).1 s_0 most = some r → Qz Tryz.prog G1 18 [.str s_0, .int .i64 most] (.tuple [.agg (Q0.cells r.1), .int .i64 r.2.1, .int .i64 r.2.2])) ∧ (∀ {code : Int} {s_1 : List UInt8} {most : Int} {r : Q0 × Int × Int}, (Qb N).2.1 code s_1 most = some r → Qz Tryz.prog G1 65 [.int .i64 code, .str s_1, .int .i64 most] (.tuple [.agg (Q0.cells r.1), .int .i64 r.2.1, .int .i64 r.2.2])) ∧ (∀ {c : Qf} {s_1 : List UInt8} {most : Int} {r : Q0 × Int × Int}, (Qb N).2.2.1 c s_1 most = some r → Qz Tryz.prog G1 98 [.agg (Qf.cells c), .str s_1, .int .i64 most] (.tuple [.agg (Q0.cells r.1), .int .i64 r.2.1, .int .i64 r.2.2])) ∧ (∀ {code : Int} {s_1 : List UInt8} {most : Int} {r : Q0 × Int × Int}, (Qb N).2.2.2 code s_1 most = some r → Qz Tryz.prog G1 120 [.int .i64 code, .str s_1, .int .i64 most] (.tuple [.agg (Q0.cells r.1), .int .i64 r.2.1, .int .i64 r.2.2])) := by
 intro N
 induction N with
 | zero => exact ⟨(fun h => by simp [Qb] at h), (fun h => by simp [Qb] at h), (fun h => by simp [Qb] at h), (fun h => by simp [Qb] at h)⟩
 | succ N ih => exact ⟨(fun h => Q50 (N := N) (fun h => ih.1 h) (fun h => ih.2.1 h) (fun h => ih.2.2.1 h) (fun h => ih.2.2.2 h) h), (fun h => Q4o (N := N) (fun h => ih.1 h) (fun h => ih.2.1 h) (fun h => ih.2.2.1 h) (fun h => ih.2.2.2 h) h), (fun h => Q3y (N := N) (fun h => ih.1 h) (fun h => ih.2.1 h) (fun h => ih.2.2.1 h) (fun h => ih.2.2.2 h) h), (fun h => Q4r (N := N) (fun h => ih.1 h) (fun h => ih.2.1 h) (fun h => ih.2.2.1 h) (fun h => ih.2.2.2 h) h)⟩
theorem Q0g {N : Nat} {s_0 : List UInt8} {most : Int} {r : Q0 × Int × Int} (h : Qu N s_0 most = some r) : Qz Tryz.prog G1 18 [.str s_0, .int .i64 most] (.tuple [.agg (Q0.cells r.1), .int .i64 r.2.1, .int .i64 r.2.2]) := (Q44 N).1 h
def Ye (R_polyglotkit_SameValue : Q0 → Q0 → Option (Bool)) (N : Nat) (a : Q0) (b : Q0) : Nat → Int → Option (Bool)
 | 0, _ => none
 | n + 1, i22 =>
  cond (Q5 .lss i22 ((Q0.rows a.Items).length : Int))
  ((idx a.Items i22).bind fun y24 =>
  (idx b.Items i22).bind fun y26 =>
  (R_polyglotkit_SameValue y24 y26).bind fun v28 =>
  cond (!v28)
  (some false)
  (Ye R_polyglotkit_SameValue N a b n (IntKind.wrap .i64 (i22 + 1))))
  (some true)
def Uf (R_polyglotkit_SameValue : Q0 → Q0 → Option (Bool)) (N : Nat) (a : Q0) (b : Q0) : Option (Bool) :=
 cond (Q5 .neq a.Kind b.Kind)
 (some false)
 (cond (Q5 .neq a.N' b.N')
 (some false)
 (cond (Q36 .neq a.Text b.Text)
 (some false)
 (cond (Q5 .neq ((Q0.rows a.Items).length : Int) ((Q0.rows b.Items).length : Int))
 (some false)
 (Ye R_polyglotkit_SameValue N a b N 0))))
theorem Q2o {R_polyglotkit_SameValue : Q0 → Q0 → Option (Bool)} (hR_polyglotkit_SameValue : ∀ {a} {b} {r}, R_polyglotkit_SameValue a b = some r → Qz Tryz.prog G1 19 [.agg (Q0.cells a), .agg (Q0.cells b)] (.bool r)) {N} {a} {b} {r} (h : Uf R_polyglotkit_SameValue N a b = some r) : Qz Tryz.prog G1 19 [.agg (Q0.cells a), .agg (Q0.cells b)] (.bool r) := by
 refine Q4 k19 ?_
 unfold Uf at h
 apply iU h <;> intro h
 ·cases h; exact (.p _)
 ·apply iU h <;> intro h
  ·cases h; exact (.p _)
  ·apply iU h <;> intro h
   ·cases h; exact (.p _)
   ·apply iU h <;> intro h
    ·cases h; exact (.p _)
    ·refine lpC (τ := Int) (fun i22 => (.any :: .any :: .ptr 0 0 :: .ptr 1 0 :: .any :: iI i22 :: a16 (a16 (a8 (a4 (a2 (.any :: []))))) : List AV)) (fun _ => (.cells (iI a.Kind :: iW a.N' :: iS a.Text :: .p (.slice 4 (Q0.rows a.Items)) :: []) :: .cells (iI b.Kind :: iW b.N' :: iS b.Text :: .p (.slice 4 (Q0.rows b.Items)) :: []) :: [] : List AObj)) (fun n0 i22 => Ye R_polyglotkit_SameValue N a b n0 i22) (0) h (fun i => i) ⟨(rW <| rE rfl <| rE rfl <| rA <| rE rfl <| rX <| rX <| rX <| rX <| rX <| rV <| rW <| rA <| rN), (hE rfl <| hE rfl <| hN), rfl, rfl, (roE rfl <| roE rfl <| roN)⟩ fun n0 i22 h => ?_
     simp only [Ye] at h
     apply iU h <;> intro h
     ·refine Qe ?_
      refine Q0.xR h fun y24 h => ?_
      refine Q0.xR h fun y26 h => ?_
      refine cD h hR_polyglotkit_SameValue (.cons q4 (.cons q4 .nil)) fun v28 h => ?_
      apply iU h <;> intro h
      ·cases h; exact (.p _)
      ·show Exists _
       exact ⟨(n0, (IntKind.wrap .i64 (i22 + 1))), h, Nat.lt_succ_self _, (fun i => i), ⟨(rW <| rE rfl <| rE rfl <| rA <| rE rfl <| rX <| rX <| rX <| rX <| rX <| rV <| rW <| rA <| rN), (hE rfl <| hE rfl <| hN), rfl, rfl, (roE rfl <| roE rfl <| roN)⟩⟩
     ·cases h; exact (.p _)
def Yg : Nat → Q0 → Q0 → Option (Bool)
 | 0 => fun _ _ => none
 | N + 1 => Uf (Yg N) N
theorem Q2m {N} {a} {b} {r} (h : Yg N a b = some r) : Qz Tryz.prog G1 19 [.agg (Q0.cells a), .agg (Q0.cells b)] (.bool r) := by
 induction N generalizing a b r with
 | zero => simp [Yg] at h
 | succ N ih => exact Q2o (fun h => ih h) h
def W3 (R_polyglotkit_nodes : Q0 → Int → Int → Option (Int)) (N : Nat) (v : Q0) (deep : Int) (most : Int) : Nat → Int → Int → Option (Int)
 | 0, _, _ => none
 | n + 1, n18, i19 =>
  cond (Q5 .lss i19 ((Q0.rows v.Items).length : Int))
  (cond (Q5 .leq n18 most)
  ((idx v.Items i19).bind fun y22 =>
  (R_polyglotkit_nodes y22 (IntKind.wrap .i64 (deep - 1)) (IntKind.wrap .i64 (most - n18))).bind fun v24 =>
  W3 R_polyglotkit_nodes N v deep most n (IntKind.wrap .i64 (n18 + v24)) (IntKind.wrap .i64 (i19 + 1)))
  (some n18))
  (some n18)
def Jq (R_polyglotkit_nodes : Q0 → Int → Int → Option (Int)) (N : Nat) (v : Q0) (deep : Int) (most : Int) : Option (Int) :=
 cond (Q5 .lss deep 0)
 (some (IntKind.wrap .i64 (most + 1)))
 (cond (Q5 .gtr ((Q0.rows v.Items).length : Int) most)
 (some (IntKind.wrap .i64 (most + 1)))
 (cond (Q5 .gtr (v.Text.length : Int) 400)
 (some (IntKind.wrap .i64 (most + 1)))
 (W3 R_polyglotkit_nodes N v deep most N 1 0)))
theorem Q5b {R_polyglotkit_nodes : Q0 → Int → Int → Option (Int)} (hR_polyglotkit_nodes : ∀ {v} {deep} {most} {r}, R_polyglotkit_nodes v deep most = some r → Qz Tryz.prog G1 66 [.agg (Q0.cells v), .int .i64 deep, .int .i64 most] (.int .i64 r)) {N} {v} {deep} {most} {r} (h : Jq R_polyglotkit_nodes N v deep most = some r) : Qz Tryz.prog G1 66 [.agg (Q0.cells v), .int .i64 deep, .int .i64 most] (.int .i64 r) := by
 refine Q4 k66 ?_
 unfold Jq at h
 apply iU h <;> intro h
 ·cases h; exact (.p _)
 ·apply iU h <;> intro h
  ·cases h; exact (.p _)
  ·apply iU h <;> intro h
   ·cases h; exact (.p _)
   ·refine lpC (τ := Int × Int) (fun ⟨n18, i19⟩ => (.any :: iI deep :: iI most :: .ptr 0 0 :: a2 (.any :: iI n18 :: iI i19 :: a16 (a16 (a8 (a2 (.any :: []))))) : List AV)) (fun ⟨_, _⟩ => (.cells (iI v.Kind :: iW v.N' :: iS v.Text :: .p (.slice 4 (Q0.rows v.Items)) :: []) :: [] : List AObj)) (fun n0 ⟨n18, i19⟩ => W3 R_polyglotkit_nodes N v deep most n0 n18 i19) (1, 0) h (fun i => i) ⟨(rA <| rE rfl <| rE rfl <| rE rfl <| rW <| rA <| rE rfl <| rE rfl <| rX <| rX <| rX <| rX <| rX <| rW <| rA <| rN), (hE rfl <| hN), rfl, rfl, (roE rfl <| roN)⟩ fun n0 ⟨n18, i19⟩ h => ?_
    simp only [W3] at h
    apply iU h <;> intro h
    ·apply iU h <;> intro h
     ·refine Q0.xR h fun y22 h => ?_
      refine cP h hR_polyglotkit_nodes (.cons q4 p2) fun v24 h => ?_
      show Exists _
      exact ⟨(n0, (IntKind.wrap .i64 (n18 + v24)), (IntKind.wrap .i64 (i19 + 1))), h, Nat.lt_succ_self _, (fun i => i), ⟨(rA <| rE rfl <| rE rfl <| rE rfl <| rW <| rA <| rE rfl <| rE rfl <| rX <| rX <| rX <| rX <| rX <| rW <| rA <| rN), (hE rfl <| hN), rfl, rfl, (roE rfl <| roN)⟩⟩
     ·cases h; exact (.p _)
    ·cases h; exact (.p _)
def Wc : Nat → Q0 → Int → Int → Option (Int)
 | 0 => fun _ _ _ => none
 | N + 1 => Jq (Wc N) N
theorem Q5a {N} {v} {deep} {most} {r} (h : Wc N v deep most = some r) : Qz Tryz.prog G1 66 [.agg (Q0.cells v), .int .i64 deep, .int .i64 most] (.int .i64 r) := by
 induction N generalizing v deep most r with
 | zero => simp [Wc] at h
 | succ N ih => exact Q5b (fun h => ih h) h
def Yz (N : Nat) (v : Q0) : Option (Bool) :=
 (Wc N v 6 40).bind fun v1 =>
 some (Q5 .leq v1 40)
theorem Ga {N} {v} {r} (h : Yz N v = some r) : Qz Tryz.prog G1 20 [.agg (Q0.cells v)] (.bool r) := by
 refine Q4 k20 ?_
 unfold Yz at h
 refine cP h Q5a (.cons q4 p2) fun v1 h => ?_
 cases h; exact (.p _)
def Vy (R_amqvalue_Same : Q0 → Q0 → Option (Bool)) (N : Nat) (a : Q0) (b : Q0) : Nat → Int → Option (Bool)
 | 0, _ => none
 | n + 1, s22 =>
  cond (Q5 .lss s22 ((Q0.rows a.Items).length : Int))
  ((idx a.Items s22).bind fun y24 =>
  (idx b.Items s22).bind fun y26 =>
  (R_amqvalue_Same y24 y26).bind fun v28 =>
  cond (!v28)
  (some false)
  (Vy R_amqvalue_Same N a b n (IntKind.wrap .i64 (s22 + 1))))
  (some true)
def Q0o (R_amqvalue_Same : Q0 → Q0 → Option (Bool)) (N : Nat) (a : Q0) (b : Q0) : Option (Bool) :=
 cond (Q5 .neq a.Kind b.Kind)
 (some false)
 (cond (Q5 .neq a.N' b.N')
 (some false)
 (cond (Q36 .neq a.Text b.Text)
 (some false)
 (cond (Q5 .neq ((Q0.rows a.Items).length : Int) ((Q0.rows b.Items).length : Int))
 (some false)
 (Vy R_amqvalue_Same N a b N 0))))
theorem Q8n {R_amqvalue_Same : Q0 → Q0 → Option (Bool)} (hR_amqvalue_Same : ∀ {a} {b} {r}, R_amqvalue_Same a b = some r → Qz Tryz.prog G1 67 [.agg (Q0.cells a), .agg (Q0.cells b)] (.bool r)) {N} {a} {b} {r} (h : Q0o R_amqvalue_Same N a b = some r) : Qz Tryz.prog G1 67 [.agg (Q0.cells a), .agg (Q0.cells b)] (.bool r) := by
 refine Q4 k67 ?_
 unfold Q0o at h
 apply iU h <;> intro h
 ·cases h; exact (.p _)
 ·apply iU h <;> intro h
  ·cases h; exact (.p _)
  ·apply iU h <;> intro h
   ·cases h; exact (.p _)
   ·apply iU h <;> intro h
    ·cases h; exact (.p _)
    ·refine lpC (τ := Int) (fun s22 => (.any :: .any :: .ptr 0 0 :: .ptr 1 0 :: a16 (a16 (iI ((Q0.rows a.Items).length : Int) :: iI s22 :: a8 (a4 (a2 (.any :: []))))) : List AV)) (fun _ => (.cells (iI a.Kind :: iW a.N' :: iS a.Text :: .p (.slice 4 (Q0.rows a.Items)) :: []) :: .cells (iI b.Kind :: iW b.N' :: iS b.Text :: .p (.slice 4 (Q0.rows b.Items)) :: []) :: [] : List AObj)) (fun n0 s22 => Vy R_amqvalue_Same N a b n0 s22) (0) h (fun i => i) ⟨(rW <| rE rfl <| rE rfl <| rX <| rX <| rX <| rX <| rE rfl <| rE rfl <| rX <| rV <| rW <| rA <| rN), (hE rfl <| hE rfl <| hN), rfl, rfl, (roE rfl <| roE rfl <| roN)⟩ fun n0 s22 h => ?_
     simp only [Vy] at h
     apply iU h <;> intro h
     ·refine Qe ?_
      refine Q0.xR h fun y24 h => ?_
      refine Q0.xR h fun y26 h => ?_
      refine cD h hR_amqvalue_Same (.cons q4 (.cons q4 .nil)) fun v28 h => ?_
      apply iU h <;> intro h
      ·cases h; exact (.p _)
      ·show Exists _
       exact ⟨(n0, (IntKind.wrap .i64 (s22 + 1))), h, Nat.lt_succ_self _, (fun i => i), ⟨(rW <| rE rfl <| rE rfl <| rX <| rX <| rX <| rX <| rE rfl <| rE rfl <| rX <| rV <| rW <| rA <| rN), (hE rfl <| hE rfl <| hN), rfl, rfl, (roE rfl <| roE rfl <| roN)⟩⟩
     ·cases h; exact (.p _)
def Ut : Nat → Q0 → Q0 → Option (Bool)
 | 0 => fun _ _ => none
 | N + 1 => Q0o (Ut N) N
theorem Q7y {N} {a} {b} {r} (h : Ut N a b = some r) : Qz Tryz.prog G1 67 [.agg (Q0.cells a), .agg (Q0.cells b)] (.bool r) := by
 induction N generalizing a b r with
 | zero => simp [Ut] at h
 | succ N ih => exact Q8n (fun h => ih h) h
def Jh (N : Nat) (v : Q0) : Option (Bool) :=
 (X9 N v).bind fun v1 =>
 (Ut N v v1).bind fun v3 =>
 some v3
theorem Q6k {N} {v} {r} (h : Jh N v = some r) : Qz Tryz.prog G1 22 [.agg (Q0.cells v)] (.bool r) := by
 refine Q4 k22 ?_
 unfold Jh at h
 refine Qe ?_
 refine cD h G4 (.cons q4 .nil) fun v1 h => ?_
 refine cD h Q7y (.cons q4 p1) fun v3 h => ?_
 cases h; exact (.p _)
def V7 (_N : Nat) (v : Q0) : Option (Bool) :=
 cond (Q36 .neq v.Text [])
 (some false)
 (cond (!(Q5 .eql v.Kind 24))
 (cond (Q5 .neq v.N' 0)
 (some false)
 (cond (Q5 .eql v.Kind 24)
 (cond (Q5 .geq v.N' 1)
 (some (Q5 .leq v.N' 24))
 (some false))
 (cond (Q5 .eql v.Kind 25)
 (some (Q5 .eql ((Q0.rows v.Items).length : Int) 2))
 (cond (Q5 .neq v.Kind 23)
 (some true)
 (some (Q5 .eql ((((Q0.rows v.Items).length : Int) : Int).tmod 2) 0))))))
 (cond (Q5 .eql v.Kind 24)
 (cond (Q5 .geq v.N' 1)
 (some (Q5 .leq v.N' 24))
 (some false))
 (cond (Q5 .eql v.Kind 25)
 (some (Q5 .eql ((Q0.rows v.Items).length : Int) 2))
 (cond (Q5 .neq v.Kind 23)
 (some true)
 (some (Q5 .eql ((((Q0.rows v.Items).length : Int) : Int).tmod 2) 0))))))
theorem Q39 {N} {v} {r} (h : V7 N v = some r) : Qz Tryz.prog G1 99 [.agg (Q0.cells v)] (.bool r) := by
 refine Q4 k99 ?_
 unfold V7 at h
 apply iU h <;> intro h
 ·cases h; exact (.p _)
 ·apply iU h <;> intro h
  ·apply iU h <;> intro h
   ·cases h; exact (.p _)
   ·apply iU h <;> intro h
    ·apply iU h <;> intro h
     ·cases h; exact (.p _)
     ·cases h; exact (.p _)
    ·apply iU h <;> intro h
     ·cases h; exact (.p _)
     ·apply iU h <;> intro h
      ·cases h; exact (.p _)
      ·cases h; exact (.p _)
  ·apply iU h <;> intro h
   ·apply iU h <;> intro h
    ·cases h; exact (.p _)
    ·cases h; exact (.p _)
   ·apply iU h <;> intro h
    ·cases h; exact (.p _)
    ·apply iU h <;> intro h
     ·cases h; exact (.p _)
     ·cases h; exact (.p _)
def Y9 (R_polyglotref17_check : Q0 → Int → Option (Int)) (N : Nat) (v : Q0) (most : Int) : Nat → Int → Option (Int)
 | 0, _ => none
 | n + 1, i42 =>
  cond (Q5 .lss i42 ((Q0.rows v.Items).length : Int))
  (cond (Q5 .eql v.Kind 24)
  ((idx v.Items i42).bind fun y45 =>
  cond (Q5 .neq (IntKind.wrap .u64 y45.Kind) v.N')
  (some 8)
  ((idx v.Items i42).bind fun y48 =>
  (R_polyglotref17_check y48 (IntKind.wrap .i64 (most - 1))).bind fun v50 =>
  cond (Q5 .neq v50 0)
  (some v50)
  (Y9 R_polyglotref17_check N v most n (IntKind.wrap .i64 (i42 + 1)))))
  ((idx v.Items i42).bind fun y53 =>
  (R_polyglotref17_check y53 (IntKind.wrap .i64 (most - 1))).bind fun v55 =>
  cond (Q5 .neq v55 0)
  (some v55)
  (Y9 R_polyglotref17_check N v most n (IntKind.wrap .i64 (i42 + 1)))))
  (cond (Q5 .eql v.Kind 23)
  ((Yd N v.Items).bind fun v59 =>
  cond v59
  (some 16)
  (some 0))
  (some 0))
def J6 (R_polyglotref17_check : Q0 → Int → Option (Int)) (N : Nat) (v : Q0) (most : Int) : Option (Int) :=
 cond (Q5 .lss v.Kind 1)
 (some 8)
 (cond (Q5 .gtr v.Kind 25)
 (some 8)
 (cond (Q5 .leq v.Kind 21)
 ((Qw N v).bind fun v4 =>
 some v4)
 (cond (Q5 .eql most 0)
 (some 14)
 ((V7 N v).bind fun v7 =>
 cond (!v7)
 (some 2)
 (cond (Q5 .gtr ((Q0.rows v.Items).length : Int) 1000)
 (some 4)
 (Y9 R_polyglotref17_check N v most N 0))))))
theorem Q3x {R_polyglotref17_check : Q0 → Int → Option (Int)} (hR_polyglotref17_check : ∀ {v} {most} {r}, R_polyglotref17_check v most = some r → Qz Tryz.prog G1 68 [.agg (Q0.cells v), .int .i64 most] (.int .i64 r)) {N} {v} {most} {r} (h : J6 R_polyglotref17_check N v most = some r) : Qz Tryz.prog G1 68 [.agg (Q0.cells v), .int .i64 most] (.int .i64 r) := by
 refine Q4 k68 ?_
 unfold J6 at h
 apply iU h <;> intro h
 ·cases h; exact (.p _)
 ·apply iU h <;> intro h
  ·cases h; exact (.p _)
  ·apply iU h <;> intro h
   ·refine cP h Zo (.cons q4 .nil) fun v4 h => ?_
    cases h; exact (.p _)
   ·apply iU h <;> intro h
    ·cases h; exact (.p _)
    ·refine cP h Q39 (.cons q4 .nil) fun v7 h => ?_
     apply iU h <;> intro h
     ·cases h; exact (.p _)
     ·apply iU h <;> intro h
      ·cases h; exact (.p _)
      ·refine lpC (τ := Int) (fun i42 => (.any :: iI most :: .ptr 0 0 :: .any :: .any :: iI i42 :: a16 (a16 (a16 (a16 (a2 (.any :: []))))) : List AV)) (fun _ => (.cells (iI v.Kind :: iW v.N' :: iS v.Text :: .p (.slice 4 (Q0.rows v.Items)) :: []) :: [] : List AObj)) (fun n0 i42 => Y9 R_polyglotref17_check N v most n0 i42) (0) h (fun i => i) ⟨(rA <| rE rfl <| rE rfl <| rW <| rE rfl <| rX <| rX <| rX <| rX <| rX <| rX <| rX <| rX <| rW <| rA <| rN), (hE rfl <| hN), rfl, rfl, (roE rfl <| roN)⟩ fun n0 i42 h => ?_
       simp only [Y9] at h
       apply iU h <;> intro h
       ·refine Qe ?_
        apply iU h <;> intro h
        ·refine Q0.xR h fun y45 h => ?_
         apply iU h <;> intro h
         ·cases h; exact (.p _)
         ·refine Q0.xR h fun y48 h => ?_
          refine cP h hR_polyglotref17_check (.cons q4 p1) fun v50 h => ?_
          apply iU h <;> intro h
          ·cases h; exact (.p _)
          ·show Exists _
           exact ⟨(n0, (IntKind.wrap .i64 (i42 + 1))), h, Nat.lt_succ_self _, (fun i => i), ⟨(rA <| rE rfl <| rE rfl <| rW <| rE rfl <| rX <| rX <| rX <| rX <| rX <| rX <| rX <| rX <| rW <| rA <| rN), (hE rfl <| hN), rfl, rfl, (roE rfl <| roN)⟩⟩
        ·refine Q0.xR h fun y53 h => ?_
         refine cP h hR_polyglotref17_check (.cons q4 p1) fun v55 h => ?_
         apply iU h <;> intro h
         ·cases h; exact (.p _)
         ·show Exists _
          exact ⟨(n0, (IntKind.wrap .i64 (i42 + 1))), h, Nat.lt_succ_self _, (fun i => i), ⟨(rA <| rE rfl <| rE rfl <| rW <| rE rfl <| rX <| rX <| rX <| rX <| rX <| rX <| rX <| rX <| rW <| rA <| rN), (hE rfl <| hN), rfl, rfl, (roE rfl <| roN)⟩⟩
       ·apply iU h <;> intro h
        ·refine cP h Jj p1 fun v59 h => ?_
         apply iU h <;> intro h
         ·cases h; exact (.p _)
         ·cases h; exact (.p _)
        ·cases h; exact (.p _)
def X8 : Nat → Q0 → Int → Option (Int)
 | 0 => fun _ _ => none
 | N + 1 => J6 (X8 N) N
theorem Q3p {N} {v} {most} {r} (h : X8 N v most = some r) : Qz Tryz.prog G1 68 [.agg (Q0.cells v), .int .i64 most] (.int .i64 r) := by
 induction N generalizing v most r with
 | zero => simp [X8] at h
 | succ N ih => exact Q3x (fun h => ih h) h
def Vm (N : Nat) (v : Q0) (most : Int) : Option (Int) :=
 cond (Q5 .lss most 0)
 (some 2)
 (cond (Q5 .gtr most 32)
 (some 2)
 ((X8 N v most).bind fun v3 =>
 some v3))
theorem Q3g {N} {v} {most} {r} (h : Vm N v most = some r) : Qz Tryz.prog G1 23 [.agg (Q0.cells v), .int .i64 most] (.int .i64 r) := by
 refine Q4 k23 ?_
 unfold Vm at h
 apply iU h <;> intro h
 ·cases h; exact (.p _)
 ·apply iU h <;> intro h
  ·cases h; exact (.p _)
  ·refine cP h Q3p (.cons q4 p1) fun v3 h => ?_
   cases h; exact (.p _)
def Gc (N : Nat) (v : Q0) (most : Int) : Option (Int × Int) :=
 (Uy N v most).bind fun v1 =>
 cond (Q5 .neq v1 0)
 (some (0, v1))
 ((X9 N v).bind fun v4 =>
 (Vd N v4).bind fun v6 =>
 (Xs N v6).bind fun v8 =>
 (Y4 N v6 v8).bind fun v10 =>
 some ((IntKind.wrap .i64 (1 + v10)), 0))
theorem Q7x {N} {v} {most} {r} (h : Gc N v most = some r) : Qz Tryz.prog G1 33 [.agg (Q0.cells v), .int .i64 most] (.tuple [.int .i64 r.1, .int .i64 r.2]) := by
 refine Q4 k33 ?_
 unfold Gc at h
 refine cP h Q2f (.cons q4 p1) fun v1 h => ?_
 apply iU h <;> intro h
 ·obtain rfl := Qc h; exact u2
 ·refine cP h G4 (.cons q4 .nil) fun v4 h => ?_
  refine cP h Q1k p1 fun v6 h => ?_
  refine Qe ?_
  refine cD h Js (.cons (Frz.agg' (.cons (.p _) (.cons (.p _) p5))) .nil) fun v8 h => ?_
  refine cD h Q0j (.cons (Frz.agg' (.cons (.p _) (.cons (.p _) p5))) p1) fun v10 h => ?_
  obtain rfl := Qc h; exact u2
end
end
end Go.Av
