/- The law. Part of a proof of a given statement: for every input the law returns true and the arguments read as before; no condition beyond the given row. -/
import Derived.Test.YtkemhhfbpniioaaGreatDoorLiftF1
namespace Go.Av
noncomputable section
open Go.Proofs
set_option maxRecDepth 100000
set_option maxHeartbeats 4000000
attribute [local irreducible] Vb X2 Q4m Q5l Q8 Q14 Qad
section
def W9 (R_polyglotref17_Read : (List UInt8) → Int → Option (Q0 × Int × Int)) (R_polyglotref17_Data : Int → (List UInt8) → Int → Option (Q0 × Int × Int)) (R_polyglotref17_sized : Qg → (List UInt8) → Int → Option (Q0 × Int × Int)) (R_polyglotref17_next : Int → (List UInt8) → Int → Option (Q0 × Int × Int)) (_N : Nat) (s_0 : List UInt8) (most : Int) : Option (Q0 × Int × Int) :=
 cond (Q8 .lss most 0)
 (some ((⟨0, 0, [], []⟩ : Q0), 0, 2))
 (cond (Q8 .gtr most 32)
 (some ((⟨0, 0, [], []⟩ : Q0), 0, 2))
 (cond (Q14 .eql s_0 [])
 (some ((⟨0, 0, [], []⟩ : Q0), 0, 3))
 ((idx s_0 0).bind fun b4 =>
 cond (Nat.ble 1 s_0.length && Nat.ble s_0.length s_0.length) ((R_polyglotref17_Data (IntKind.wrap .i64 (b4.toNat : Int)) ((s_0.take s_0.length).drop 1) most).bind fun v7 =>
 cond (Q8 .neq v7.2.2 0)
 (some ((⟨0, 0, [], []⟩ : Q0), 0, v7.2.2))
 (some (v7.1, (IntKind.wrap .i64 (v7.2.1 + 1)), 0))) none)))
theorem Q1g {R_polyglotref17_Read : (List UInt8) → Int → Option (Q0 × Int × Int)} {R_polyglotref17_Data : Int → (List UInt8) → Int → Option (Q0 × Int × Int)} {R_polyglotref17_sized : Qg → (List UInt8) → Int → Option (Q0 × Int × Int)} {R_polyglotref17_next : Int → (List UInt8) → Int → Option (Q0 × Int × Int)} (hR_polyglotref17_Read : ∀ {s_0} {most} {r}, R_polyglotref17_Read s_0 most = some r → Zj Tryz.prog G1 18 [.str s_0, .int .i64 most] (.tuple [.agg (Q0.cells r.1), .int .i64 r.2.1, .int .i64 r.2.2])) (hR_polyglotref17_Data : ∀ {code} {s_1} {most} {r}, R_polyglotref17_Data code s_1 most = some r → Zj Tryz.prog G1 65 [.int .i64 code, .str s_1, .int .i64 most] (.tuple [.agg (Q0.cells r.1), .int .i64 r.2.1, .int .i64 r.2.2])) (hR_polyglotref17_sized : ∀ {c} {s_1} {most} {r}, R_polyglotref17_sized c s_1 most = some r → Zj Tryz.prog G1 98 [.agg (Qg.cells c), .str s_1, .int .i64 most] (.tuple [.agg (Q0.cells r.1), .int .i64 r.2.1, .int .i64 r.2.2])) (hR_polyglotref17_next : ∀ {code} {s_1} {most} {r}, R_polyglotref17_next code s_1 most = some r → Zj Tryz.prog G1 120 [.int .i64 code, .str s_1, .int .i64 most] (.tuple [.agg (Q0.cells r.1), .int .i64 r.2.1, .int .i64 r.2.2])) {N} {s_0} {most} {r} (h : W9 R_polyglotref17_Read R_polyglotref17_Data R_polyglotref17_sized R_polyglotref17_next N s_0 most = some r) : Zj Tryz.prog G1 18 [.str s_0, .int .i64 most] (.tuple [.agg (Q0.cells r.1), .int .i64 r.2.1, .int .i64 r.2.2]) := by
 refine Q4 k18 ?_
 unfold W9 at h
 apply iU h <;> intro h
 ·obtain rfl := Qj h; exact (Frz.tuple' (.cons q4n p2))
 ·apply iU h <;> intro h
  ·obtain rfl := Qj h; exact (Frz.tuple' (.cons q4n p2))
  ·apply iU h <;> intro h
   ·obtain rfl := Qj h; exact (Frz.tuple' (.cons q4n p2))
   ·refine Z1 ?_
    refine xB h fun b4 h => ?_
    refine kU h fun h => ?_
    refine cD h hR_polyglotref17_Data p3 fun v7 h => ?_
    apply iU h <;> intro h
    ·obtain rfl := Qj h; exact (Frz.tuple' (.cons q4n p2))
    ·obtain rfl := Qj h; exact (Frz.tuple' (.cons q4 p2))
def Yg (R_polyglotref17_Read : (List UInt8) → Int → Option (Q0 × Int × Int)) (R_polyglotref17_Data : Int → (List UInt8) → Int → Option (Q0 × Int × Int)) (R_polyglotref17_sized : Qg → (List UInt8) → Int → Option (Q0 × Int × Int)) (R_polyglotref17_next : Int → (List UInt8) → Int → Option (Q0 × Int × Int)) (N : Nat) (code : Int) (s_1 : List UInt8) (most : Int) : Option (Q0 × Int × Int) :=
 cond (Q8 .lss most 0)
 (some ((⟨0, 0, [], []⟩ : Q0), 0, 2))
 (cond (Q8 .gtr most 32)
 (some ((⟨0, 0, [], []⟩ : Q0), 0, 2))
 ((Yl N code).bind fun v3 =>
 cond (!v3.2)
 (some ((⟨0, 0, [], []⟩ : Q0), 0, 8))
 (cond (!v3.1.Items)
 ((Wq N code s_1).bind fun v7 =>
 some (v7.1, v7.2.1, v7.2.2))
 (cond (Q8 .eql most 0)
 (some ((⟨0, 0, [], []⟩ : Q0), 0, 14))
 (cond v3.1.Sized
 ((R_polyglotref17_sized v3.1 s_1 most).bind fun v11 =>
 some (v11.1, v11.2.1, v11.2.2))
 (cond (Q8 .eql v3.1.Kind 22)
 (some ((⟨22, 0, [], []⟩ : Q0), 0, 0))
 ((R_polyglotref17_Read s_1 (IntKind.wrap .i64 (most - 1))).bind fun v14 =>
 cond (Q8 .neq v14.2.2 0)
 (some ((⟨0, 0, [], []⟩ : Q0), 0, v14.2.2))
 (cond (decide (0 ≤ v14.2.1)) (cond (Nat.ble v14.2.1.toNat s_1.length && Nat.ble s_1.length s_1.length) ((R_polyglotref17_Read ((s_1.take s_1.length).drop v14.2.1.toNat) (IntKind.wrap .i64 (most - 1))).bind fun v19 =>
 cond (Q8 .neq v19.2.2 0)
 (some ((⟨0, 0, [], []⟩ : Q0), 0, v19.2.2))
 (some ((⟨25, 0, [], [v14.1, v19.1]⟩ : Q0), (IntKind.wrap .i64 (v14.2.1 + v19.2.1)), 0))) none) none))))))))
theorem Q1j {R_polyglotref17_Read : (List UInt8) → Int → Option (Q0 × Int × Int)} {R_polyglotref17_Data : Int → (List UInt8) → Int → Option (Q0 × Int × Int)} {R_polyglotref17_sized : Qg → (List UInt8) → Int → Option (Q0 × Int × Int)} {R_polyglotref17_next : Int → (List UInt8) → Int → Option (Q0 × Int × Int)} (hR_polyglotref17_Read : ∀ {s_0} {most} {r}, R_polyglotref17_Read s_0 most = some r → Zj Tryz.prog G1 18 [.str s_0, .int .i64 most] (.tuple [.agg (Q0.cells r.1), .int .i64 r.2.1, .int .i64 r.2.2])) (hR_polyglotref17_Data : ∀ {code} {s_1} {most} {r}, R_polyglotref17_Data code s_1 most = some r → Zj Tryz.prog G1 65 [.int .i64 code, .str s_1, .int .i64 most] (.tuple [.agg (Q0.cells r.1), .int .i64 r.2.1, .int .i64 r.2.2])) (hR_polyglotref17_sized : ∀ {c} {s_1} {most} {r}, R_polyglotref17_sized c s_1 most = some r → Zj Tryz.prog G1 98 [.agg (Qg.cells c), .str s_1, .int .i64 most] (.tuple [.agg (Q0.cells r.1), .int .i64 r.2.1, .int .i64 r.2.2])) (hR_polyglotref17_next : ∀ {code} {s_1} {most} {r}, R_polyglotref17_next code s_1 most = some r → Zj Tryz.prog G1 120 [.int .i64 code, .str s_1, .int .i64 most] (.tuple [.agg (Q0.cells r.1), .int .i64 r.2.1, .int .i64 r.2.2])) {N} {code} {s_1} {most} {r} (h : Yg R_polyglotref17_Read R_polyglotref17_Data R_polyglotref17_sized R_polyglotref17_next N code s_1 most = some r) : Zj Tryz.prog G1 65 [.int .i64 code, .str s_1, .int .i64 most] (.tuple [.agg (Q0.cells r.1), .int .i64 r.2.1, .int .i64 r.2.2]) := by
 refine Q4 k65 ?_
 unfold Yg at h
 apply iU h <;> intro h
 ·obtain rfl := Qj h; exact (Frz.tuple' (.cons q4n p2))
 ·apply iU h <;> intro h
  ·obtain rfl := Qj h; exact (Frz.tuple' (.cons q4n p2))
  ·refine cP h Wz p1 fun v3 h => ?_
   apply iU h <;> intro h
   ·obtain rfl := Qj h; exact (Frz.tuple' (.cons q4n p2))
   ·apply iU h <;> intro h
    ·refine cP h Q1r p2 fun v7 h => ?_
     obtain rfl := Qj h; exact (Frz.tuple' (.cons q4 p2))
    ·apply iU h <;> intro h
     ·obtain rfl := Qj h; exact (Frz.tuple' (.cons q4n p2))
     ·apply iU h <;> intro h
      ·refine cP h hR_polyglotref17_sized (.cons (Frz.agg' p5) p2) fun v11 h => ?_
       obtain rfl := Qj h; exact (Frz.tuple' (.cons q4 p2))
      ·apply iU h <;> intro h
       ·obtain rfl := Qj h; exact (Frz.tuple' (.cons q4n p2))
       ·refine cP h hR_polyglotref17_Read p2 fun v14 h => ?_
        apply iU h <;> intro h
        ·obtain rfl := Qj h; exact (Frz.tuple' (.cons q4n p2))
        ·refine kU h fun h => ?_
         refine kU h fun h => ?_
         refine cP h hR_polyglotref17_Read p2 fun v19 h => ?_
         apply iU h <;> intro h
         ·obtain rfl := Qj h; exact (Frz.tuple' (.cons q4n p2))
         ·obtain rfl := Qj h; exact (Frz.tuple' (.cons (Frz.agg' (.cons (.p _) (.cons (.p _) (.cons (.p _) (.cons (Q0.frz_own (l := [v14.1, v19.1]) rfl trivial (by simp)) .nil))))) p2))
def Xv (R_polyglotref17_next : Int → (List UInt8) → Int → Option (Q0 × Int × Int)) (N : Nat) (c : Qg) (most : Int) (v4 : Int) (v11 : Int) (b19 : UInt8) (v21 : Qg × Bool) : Nat → (List UInt8) → Int → (List Q0) → Option (Q0 × Int × Int)
 | 0, _, _, _ => none
 | n + 1, body44, i45, l46 =>
  cond (Q8 .lss i45 v11)
  ((R_polyglotref17_next (IntKind.wrap .i64 (b19.toNat : Int)) body44 (IntKind.wrap .i64 (most - 1))).bind fun v48 =>
  cond (Q8 .eql v48.2.2 3)
  (some ((⟨0, 0, [], []⟩ : Q0), 0, 5))
  (cond (Q8 .neq v48.2.2 0)
  (some ((⟨0, 0, [], []⟩ : Q0), 0, v48.2.2))
  (cond (Nat.ble ((l46.length + 1 + 4096) * 56) 17592186044416) (cond (decide (0 ≤ v48.2.1)) (cond (Nat.ble v48.2.1.toNat body44.length && Nat.ble body44.length body44.length) (Xv R_polyglotref17_next N c most v4 v11 b19 v21 n ((body44.take body44.length).drop v48.2.1.toNat) (IntKind.wrap .u64 (i45 + 1)) (l46 ++ [v48.1])) none) none) none)))
  (cond (Q14 .neq body44 [])
  (some ((⟨0, 0, [], []⟩ : Q0), 0, 5))
  ((Zi N l46).bind fun v56 =>
  cond v56
  (some ((⟨0, 0, [], []⟩ : Q0), 0, 16))
  (some ((⟨c.Kind, (IntKind.wrap .u64 v21.1.Kind), [], l46⟩ : Q0), (IntKind.wrap .i64 (c.Width + (IntKind.wrap .i64 v4))), 0))))
def Yt (R_polyglotref17_next : Int → (List UInt8) → Int → Option (Q0 × Int × Int)) (N : Nat) (c : Qg) (most : Int) (v4 : Int) (v11 : Int) : Nat → (List UInt8) → Int → (List Q0) → Option (Q0 × Int × Int)
 | 0, _, _, _ => none
 | n + 1, body77, i78, l79 =>
  cond (Q8 .lss i78 v11)
  ((R_polyglotref17_next (-1) body77 (IntKind.wrap .i64 (most - 1))).bind fun v81 =>
  cond (Q8 .eql v81.2.2 3)
  (some ((⟨0, 0, [], []⟩ : Q0), 0, 5))
  (cond (Q8 .neq v81.2.2 0)
  (some ((⟨0, 0, [], []⟩ : Q0), 0, v81.2.2))
  (cond (Nat.ble ((l79.length + 1 + 4096) * 56) 17592186044416) (cond (decide (0 ≤ v81.2.1)) (cond (Nat.ble v81.2.1.toNat body77.length && Nat.ble body77.length body77.length) (Yt R_polyglotref17_next N c most v4 v11 n ((body77.take body77.length).drop v81.2.1.toNat) (IntKind.wrap .u64 (i78 + 1)) (l79 ++ [v81.1])) none) none) none)))
  (cond (Q14 .neq body77 [])
  (some ((⟨0, 0, [], []⟩ : Q0), 0, 5))
  ((Zi N l79).bind fun v89 =>
  cond v89
  (some ((⟨0, 0, [], []⟩ : Q0), 0, 16))
  (some ((⟨c.Kind, 0, [], l79⟩ : Q0), (IntKind.wrap .i64 (c.Width + (IntKind.wrap .i64 v4))), 0))))
def Yx (R_polyglotref17_next : Int → (List UInt8) → Int → Option (Q0 × Int × Int)) (N : Nat) (c : Qg) (most : Int) (v4 : Int) (v11 : Int) (b94 : UInt8) (v96 : Qg × Bool) : Nat → (List UInt8) → Int → (List Q0) → Option (Q0 × Int × Int)
 | 0, _, _, _ => none
 | n + 1, body119, i120, l121 =>
  cond (Q8 .lss i120 v11)
  ((R_polyglotref17_next (IntKind.wrap .i64 (b94.toNat : Int)) body119 (IntKind.wrap .i64 (most - 1))).bind fun v123 =>
  cond (Q8 .eql v123.2.2 3)
  (some ((⟨0, 0, [], []⟩ : Q0), 0, 5))
  (cond (Q8 .neq v123.2.2 0)
  (some ((⟨0, 0, [], []⟩ : Q0), 0, v123.2.2))
  (cond (Nat.ble ((l121.length + 1 + 4096) * 56) 17592186044416) (cond (decide (0 ≤ v123.2.1)) (cond (Nat.ble v123.2.1.toNat body119.length && Nat.ble body119.length body119.length) (Yx R_polyglotref17_next N c most v4 v11 b94 v96 n ((body119.take body119.length).drop v123.2.1.toNat) (IntKind.wrap .u64 (i120 + 1)) (l121 ++ [v123.1])) none) none) none)))
  (cond (Q14 .neq body119 [])
  (some ((⟨0, 0, [], []⟩ : Q0), 0, 5))
  (some ((⟨c.Kind, (IntKind.wrap .u64 v96.1.Kind), [], l121⟩ : Q0), (IntKind.wrap .i64 (c.Width + (IntKind.wrap .i64 v4))), 0)))
def Yz (R_polyglotref17_next : Int → (List UInt8) → Int → Option (Q0 × Int × Int)) (N : Nat) (c : Qg) (most : Int) (v4 : Int) (v11 : Int) : Nat → (List UInt8) → Int → (List Q0) → Option (Q0 × Int × Int)
 | 0, _, _, _ => none
 | n + 1, body149, i150, l151 =>
  cond (Q8 .lss i150 v11)
  ((R_polyglotref17_next (-1) body149 (IntKind.wrap .i64 (most - 1))).bind fun v153 =>
  cond (Q8 .eql v153.2.2 3)
  (some ((⟨0, 0, [], []⟩ : Q0), 0, 5))
  (cond (Q8 .neq v153.2.2 0)
  (some ((⟨0, 0, [], []⟩ : Q0), 0, v153.2.2))
  (cond (Nat.ble ((l151.length + 1 + 4096) * 56) 17592186044416) (cond (decide (0 ≤ v153.2.1)) (cond (Nat.ble v153.2.1.toNat body149.length && Nat.ble body149.length body149.length) (Yz R_polyglotref17_next N c most v4 v11 n ((body149.take body149.length).drop v153.2.1.toNat) (IntKind.wrap .u64 (i150 + 1)) (l151 ++ [v153.1])) none) none) none)))
  (cond (Q14 .neq body149 [])
  (some ((⟨0, 0, [], []⟩ : Q0), 0, 5))
  (some ((⟨c.Kind, 0, [], l151⟩ : Q0), (IntKind.wrap .i64 (c.Width + (IntKind.wrap .i64 v4))), 0)))
def Ys (R_polyglotref17_Read : (List UInt8) → Int → Option (Q0 × Int × Int)) (R_polyglotref17_Data : Int → (List UInt8) → Int → Option (Q0 × Int × Int)) (R_polyglotref17_sized : Qg → (List UInt8) → Int → Option (Q0 × Int × Int)) (R_polyglotref17_next : Int → (List UInt8) → Int → Option (Q0 × Int × Int)) (N : Nat) (c : Qg) (s_1 : List UInt8) (most : Int) : Option (Q0 × Int × Int) :=
 cond (Q8 .lss (s_1.length : Int) c.Width)
 (some ((⟨0, 0, [], []⟩ : Q0), 0, 3))
 (cond (decide (0 ≤ c.Width)) (cond (Nat.ble 0 c.Width.toNat && Nat.ble c.Width.toNat s_1.length) ((Zc N ((s_1.take c.Width.toNat).drop 0)).bind fun v4 =>
 cond (Q8 .gtr v4 (IntKind.wrap .u64 (IntKind.wrap .i64 ((s_1.length : Int) - c.Width))))
 (some ((⟨0, 0, [], []⟩ : Q0), 0, 3))
 (cond (decide (0 ≤ (IntKind.wrap .i64 (c.Width + (IntKind.wrap .i64 v4))))) (cond (Nat.ble c.Width.toNat ((IntKind.wrap .i64 (c.Width + (IntKind.wrap .i64 v4))).toNat) && Nat.ble ((IntKind.wrap .i64 (c.Width + (IntKind.wrap .i64 v4))).toNat) s_1.length) (cond (Q8 .lss (((s_1.take ((IntKind.wrap .i64 (c.Width + (IntKind.wrap .i64 v4))).toNat)).drop c.Width.toNat).length : Int) c.Width)
 (some ((⟨0, 0, [], []⟩ : Q0), 0, 5))
 (cond (Nat.ble 0 c.Width.toNat && Nat.ble c.Width.toNat ((s_1.take ((IntKind.wrap .i64 (c.Width + (IntKind.wrap .i64 v4))).toNat)).drop c.Width.toNat).length) ((Zc N ((((s_1.take ((IntKind.wrap .i64 (c.Width + (IntKind.wrap .i64 v4))).toNat)).drop c.Width.toNat).take c.Width.toNat).drop 0)).bind fun v11 =>
 cond (Nat.ble c.Width.toNat (((s_1.take ((IntKind.wrap .i64 (c.Width + (IntKind.wrap .i64 v4))).toNat)).drop c.Width.toNat).length) && Nat.ble (((s_1.take ((IntKind.wrap .i64 (c.Width + (IntKind.wrap .i64 v4))).toNat)).drop c.Width.toNat).length) ((s_1.take ((IntKind.wrap .i64 (c.Width + (IntKind.wrap .i64 v4))).toNat)).drop c.Width.toNat).length) (cond (Q8 .gtr v11 1000)
 (some ((⟨0, 0, [], []⟩ : Q0), 0, 4))
 (cond (Q8 .eql c.Kind 23)
 (cond (Q8 .neq ((v11 : Int).tmod 2) 0)
 (some ((⟨0, 0, [], []⟩ : Q0), 0, 5))
 (cond (Q8 .eql c.Kind 24)
 (cond (Q14 .eql ((((s_1.take ((IntKind.wrap .i64 (c.Width + (IntKind.wrap .i64 v4))).toNat)).drop c.Width.toNat).take (((s_1.take ((IntKind.wrap .i64 (c.Width + (IntKind.wrap .i64 v4))).toNat)).drop c.Width.toNat).length)).drop c.Width.toNat) [])
 (some ((⟨0, 0, [], []⟩ : Q0), 0, 5))
 ((idx ((((s_1.take ((IntKind.wrap .i64 (c.Width + (IntKind.wrap .i64 v4))).toNat)).drop c.Width.toNat).take (((s_1.take ((IntKind.wrap .i64 (c.Width + (IntKind.wrap .i64 v4))).toNat)).drop c.Width.toNat).length)).drop c.Width.toNat) 0).bind fun b19 =>
 (Yl N (IntKind.wrap .i64 (b19.toNat : Int))).bind fun v21 =>
 cond (!v21.2)
 (some ((⟨0, 0, [], []⟩ : Q0), 0, 8))
 (cond (Q8 .eql (IntKind.wrap .i64 (b19.toNat : Int)) 0)
 (some ((⟨0, 0, [], []⟩ : Q0), 0, 8))
 (cond (Nat.ble 1 (((((s_1.take ((IntKind.wrap .i64 (c.Width + (IntKind.wrap .i64 v4))).toNat)).drop c.Width.toNat).take (((s_1.take ((IntKind.wrap .i64 (c.Width + (IntKind.wrap .i64 v4))).toNat)).drop c.Width.toNat).length)).drop c.Width.toNat).length) && Nat.ble (((((s_1.take ((IntKind.wrap .i64 (c.Width + (IntKind.wrap .i64 v4))).toNat)).drop c.Width.toNat).take (((s_1.take ((IntKind.wrap .i64 (c.Width + (IntKind.wrap .i64 v4))).toNat)).drop c.Width.toNat).length)).drop c.Width.toNat).length) ((((s_1.take ((IntKind.wrap .i64 (c.Width + (IntKind.wrap .i64 v4))).toNat)).drop c.Width.toNat).take (((s_1.take ((IntKind.wrap .i64 (c.Width + (IntKind.wrap .i64 v4))).toNat)).drop c.Width.toNat).length)).drop c.Width.toNat).length) (Xv R_polyglotref17_next N c most v4 v11 b19 v21 N ((((((s_1.take ((IntKind.wrap .i64 (c.Width + (IntKind.wrap .i64 v4))).toNat)).drop c.Width.toNat).take (((s_1.take ((IntKind.wrap .i64 (c.Width + (IntKind.wrap .i64 v4))).toNat)).drop c.Width.toNat).length)).drop c.Width.toNat).take (((((s_1.take ((IntKind.wrap .i64 (c.Width + (IntKind.wrap .i64 v4))).toNat)).drop c.Width.toNat).take (((s_1.take ((IntKind.wrap .i64 (c.Width + (IntKind.wrap .i64 v4))).toNat)).drop c.Width.toNat).length)).drop c.Width.toNat).length)).drop 1) 0 []) none))))
 (Yt R_polyglotref17_next N c most v4 v11 N ((((s_1.take ((IntKind.wrap .i64 (c.Width + (IntKind.wrap .i64 v4))).toNat)).drop c.Width.toNat).take (((s_1.take ((IntKind.wrap .i64 (c.Width + (IntKind.wrap .i64 v4))).toNat)).drop c.Width.toNat).length)).drop c.Width.toNat) 0 [])))
 (cond (Q8 .eql c.Kind 24)
 (cond (Q14 .eql ((((s_1.take ((IntKind.wrap .i64 (c.Width + (IntKind.wrap .i64 v4))).toNat)).drop c.Width.toNat).take (((s_1.take ((IntKind.wrap .i64 (c.Width + (IntKind.wrap .i64 v4))).toNat)).drop c.Width.toNat).length)).drop c.Width.toNat) [])
 (some ((⟨0, 0, [], []⟩ : Q0), 0, 5))
 ((idx ((((s_1.take ((IntKind.wrap .i64 (c.Width + (IntKind.wrap .i64 v4))).toNat)).drop c.Width.toNat).take (((s_1.take ((IntKind.wrap .i64 (c.Width + (IntKind.wrap .i64 v4))).toNat)).drop c.Width.toNat).length)).drop c.Width.toNat) 0).bind fun b94 =>
 (Yl N (IntKind.wrap .i64 (b94.toNat : Int))).bind fun v96 =>
 cond (!v96.2)
 (some ((⟨0, 0, [], []⟩ : Q0), 0, 8))
 (cond (Q8 .eql (IntKind.wrap .i64 (b94.toNat : Int)) 0)
 (some ((⟨0, 0, [], []⟩ : Q0), 0, 8))
 (cond (Nat.ble 1 (((((s_1.take ((IntKind.wrap .i64 (c.Width + (IntKind.wrap .i64 v4))).toNat)).drop c.Width.toNat).take (((s_1.take ((IntKind.wrap .i64 (c.Width + (IntKind.wrap .i64 v4))).toNat)).drop c.Width.toNat).length)).drop c.Width.toNat).length) && Nat.ble (((((s_1.take ((IntKind.wrap .i64 (c.Width + (IntKind.wrap .i64 v4))).toNat)).drop c.Width.toNat).take (((s_1.take ((IntKind.wrap .i64 (c.Width + (IntKind.wrap .i64 v4))).toNat)).drop c.Width.toNat).length)).drop c.Width.toNat).length) ((((s_1.take ((IntKind.wrap .i64 (c.Width + (IntKind.wrap .i64 v4))).toNat)).drop c.Width.toNat).take (((s_1.take ((IntKind.wrap .i64 (c.Width + (IntKind.wrap .i64 v4))).toNat)).drop c.Width.toNat).length)).drop c.Width.toNat).length) (Yx R_polyglotref17_next N c most v4 v11 b94 v96 N ((((((s_1.take ((IntKind.wrap .i64 (c.Width + (IntKind.wrap .i64 v4))).toNat)).drop c.Width.toNat).take (((s_1.take ((IntKind.wrap .i64 (c.Width + (IntKind.wrap .i64 v4))).toNat)).drop c.Width.toNat).length)).drop c.Width.toNat).take (((((s_1.take ((IntKind.wrap .i64 (c.Width + (IntKind.wrap .i64 v4))).toNat)).drop c.Width.toNat).take (((s_1.take ((IntKind.wrap .i64 (c.Width + (IntKind.wrap .i64 v4))).toNat)).drop c.Width.toNat).length)).drop c.Width.toNat).length)).drop 1) 0 []) none))))
 (Yz R_polyglotref17_next N c most v4 v11 N ((((s_1.take ((IntKind.wrap .i64 (c.Width + (IntKind.wrap .i64 v4))).toNat)).drop c.Width.toNat).take (((s_1.take ((IntKind.wrap .i64 (c.Width + (IntKind.wrap .i64 v4))).toNat)).drop c.Width.toNat).length)).drop c.Width.toNat) 0 [])))) none) none)) none) none)) none) none)
theorem Q0a {R_polyglotref17_Read : (List UInt8) → Int → Option (Q0 × Int × Int)} {R_polyglotref17_Data : Int → (List UInt8) → Int → Option (Q0 × Int × Int)} {R_polyglotref17_sized : Qg → (List UInt8) → Int → Option (Q0 × Int × Int)} {R_polyglotref17_next : Int → (List UInt8) → Int → Option (Q0 × Int × Int)} (hR_polyglotref17_Read : ∀ {s_0} {most} {r}, R_polyglotref17_Read s_0 most = some r → Zj Tryz.prog G1 18 [.str s_0, .int .i64 most] (.tuple [.agg (Q0.cells r.1), .int .i64 r.2.1, .int .i64 r.2.2])) (hR_polyglotref17_Data : ∀ {code} {s_1} {most} {r}, R_polyglotref17_Data code s_1 most = some r → Zj Tryz.prog G1 65 [.int .i64 code, .str s_1, .int .i64 most] (.tuple [.agg (Q0.cells r.1), .int .i64 r.2.1, .int .i64 r.2.2])) (hR_polyglotref17_sized : ∀ {c} {s_1} {most} {r}, R_polyglotref17_sized c s_1 most = some r → Zj Tryz.prog G1 98 [.agg (Qg.cells c), .str s_1, .int .i64 most] (.tuple [.agg (Q0.cells r.1), .int .i64 r.2.1, .int .i64 r.2.2])) (hR_polyglotref17_next : ∀ {code} {s_1} {most} {r}, R_polyglotref17_next code s_1 most = some r → Zj Tryz.prog G1 120 [.int .i64 code, .str s_1, .int .i64 most] (.tuple [.agg (Q0.cells r.1), .int .i64 r.2.1, .int .i64 r.2.2])) {N} {c} {s_1} {most} {r} (h : Ys R_polyglotref17_Read R_polyglotref17_Data R_polyglotref17_sized R_polyglotref17_next N c s_1 most = some r) : Zj Tryz.prog G1 98 [.agg (Qg.cells c), .str s_1, .int .i64 most] (.tuple [.agg (Q0.cells r.1), .int .i64 r.2.1, .int .i64 r.2.2]) := by
 refine Q4 k98 ?_
 unfold Ys at h
 apply iU h <;> intro h
 ·obtain rfl := Qj h; exact (Frz.tuple' (.cons q4n p2))
 ·obtain ⟨hk2, h⟩ := Ql3 h
  refine Qb9 hk2 ?_
  refine kU h fun h => ?_
  refine cP h Xk p1 fun v4 h => ?_
  apply iU h <;> intro h
  ·obtain rfl := Qj h; exact (Frz.tuple' (.cons q4n p2))
  ·refine Qb9 hk2 ?_
   refine kU h fun h => ?_
   refine kU h fun h => ?_
   apply iU h <;> intro h
   ·obtain rfl := Qj h; exact (Frz.tuple' (.cons q4n p2))
   ·refine Qb9 hk2 ?_
    refine kU h fun h => ?_
    refine cP h Xk p1 fun v11 h => ?_
    refine Qb9 hk2 ?_
    refine kU h fun h => ?_
    apply iU h <;> intro h
    ·obtain rfl := Qj h; exact (Frz.tuple' (.cons q4n p2))
    ·refine ifO h (fun hc15 h => ?_) (fun hc15 h => ?_)
     ·apply iU h <;> intro h
      ·obtain rfl := Qj h; exact (Frz.tuple' (.cons q4n p2))
      ·refine ifO h (fun hc17 h => ?_) (fun hc17 h => ?_)
       ·apply iU h <;> intro h
        ·obtain rfl := Qj h; exact (Frz.tuple' (.cons q4n p2))
        ·refine ifT hc17 ?_
         refine xB h fun b19 h => ?_
         refine cP h Wz p1 fun v21 h => ?_
         apply iU h <;> intro h
         ·obtain rfl := Qj h; exact (Frz.tuple' (.cons q4n p2))
         ·apply iU h <;> intro h
          ·obtain rfl := Qj h; exact (Frz.tuple' (.cons q4n p2))
          ·refine Z1 ?_
           refine kU h fun h => ?_
           refine lpC (τ := (List UInt8) × Int × (List Q0)) (fun ⟨body44, i45, _⟩ => (.any :: .any :: iI most :: .ptr 0 0 :: .any :: .any :: .ptr 1 0 :: a4 (.p (.int .i64 (IntKind.wrap .i64 (c.Width + (IntKind.wrap .i64 v4)))) :: iS body44 :: iW v11 :: .ptr 2 0 :: iI (IntKind.wrap .i64 (b19.toNat : Int)) :: .any :: .any :: iW i45 :: a16 (a16 (a16 (a16 (a16 (a16 (a16 (a16 (a8 ([])))))))))) : List AV)) (fun ⟨_, _, l46⟩ => (.cells (iI c.Code :: iI c.Kind :: iI c.Width :: .p (.bool c.Sized) :: .p (.bool c.Items) :: []) :: .cells (iI 0 :: iW 0 :: iS [] :: .p .nilSlice :: []) :: .cells (iI c.Kind :: iW (IntKind.wrap .u64 v21.1.Kind) :: iS [] :: .slice 4 4 0 l46.length :: []) :: .cells (iI v21.1.Code :: iI v21.1.Kind :: iI v21.1.Width :: .p (.bool v21.1.Sized) :: .p (.bool v21.1.Items) :: []) :: .cells (W8 Q0.cells l46) :: [] : List AObj)) (fun n0 ⟨body44, i45, l46⟩ => Xv R_polyglotref17_next N c most v4 v11 b19 v21 n0 body44 i45 l46) (((((((s_1.take ((IntKind.wrap .i64 (c.Width + (IntKind.wrap .i64 v4))).toNat)).drop c.Width.toNat).take (((s_1.take ((IntKind.wrap .i64 (c.Width + (IntKind.wrap .i64 v4))).toNat)).drop c.Width.toNat).length)).drop c.Width.toNat).take (((((s_1.take ((IntKind.wrap .i64 (c.Width + (IntKind.wrap .i64 v4))).toNat)).drop c.Width.toNat).take (((s_1.take ((IntKind.wrap .i64 (c.Width + (IntKind.wrap .i64 v4))).toNat)).drop c.Width.toNat).length)).drop c.Width.toNat).length)).drop 1), 0, []) h (fun i => i) ⟨(rW <| rE rfl <| rE rfl <| rW <| rE rfl <| rV <| rE rfl <| rE rfl <| rE rfl <| rE rfl <| rE rfl <| rW <| rE rfl <| rX <| rX <| rX <| rX <| rX <| rX <| rX <| rX <| rX <| rX <| rX <| rX <| rX <| rX <| rX <| rX <| rX <| rN), (hE rfl <| hE rfl <| hC rfl (rE rfl <| rE rfl <| rE rfl <| rS <| rN) <| hE rfl <| hV lb <| hN), rfl, rfl, (roE rfl <| roE rfl <| roE rfl <| roE rfl <| roE (Ql _ _ _) <| roN)⟩ fun n0 ⟨body44, i45, l46⟩ h => ?_
           simp only [Xv] at h
           apply iU h <;> intro h
           ·refine cP h hR_polyglotref17_next p3 fun v48 h => ?_
            apply iU h <;> intro h
            ·refine ifT (by unfold Q8; decide) ?_
             obtain rfl := Qj h; exact (Frz.tuple' (.cons q4n p2))
            ·apply iU h <;> intro h
             ·obtain rfl := Qj h; exact (Frz.tuple' (.cons q4n p2))
             ·refine Z1 ?_
              obtain ⟨hk52, h⟩ := Ql3 h
              refine Qb9 (Q39 (c := Q0.cells) (e := 4) (fun _ => rfl) (by simp) hk52) ?_
              refine Q8f (c := Q0.cells) [v48.1] rfl ?_
              refine kU h fun h => ?_
              refine kU h fun h => ?_
              show Exists _
              exact ⟨(n0, ((body44.take body44.length).drop v48.2.1.toNat), (IntKind.wrap .u64 (i45 + 1)), (l46 ++ [v48.1])), h, Nat.lt_succ_self _, (rho [0, 1, 2, 3, 7]), ⟨(rW <| rE rfl <| rE rfl <| rW <| rE rfl <| rV <| rE rfl <| rE rfl <| rE rfl <| rE rfl <| rE rfl <| rW <| rE rfl <| rX <| rX <| rX <| rX <| rX <| rX <| rX <| rX <| rX <| rX <| rX <| rX <| rX <| rX <| rX <| rX <| rX <| rN), (hE rfl <| hE rfl <| hC rfl (rE rfl <| rE rfl <| rE rfl <| rL (by simp) rfl <| rN) <| hE rfl <| hO rfl <| hN), rfl, rfl, (roE rfl <| roE rfl <| roE rfl <| roE rfl <| roE (Ql _ _ _) <| roN)⟩⟩
           ·apply iU h <;> intro h
            ·obtain rfl := Qj h; exact (Frz.tuple' (.cons q4n p2))
            ·refine ifT hc15 ?_
             refine cK h V8 (.cons (Q0.frz_own (l := l46) rfl trivial (by simp)) .nil) fun v56 h => ?_
             apply iU h <;> intro h
             ·obtain rfl := Qj h; exact (Frz.tuple' (.cons q4n p2))
             ·obtain rfl := Qj h; exact (Frz.tuple' (.cons (Frz.agg' (.cons (.p _) (.cons (.p _) (.cons (.p _) (.cons (Q0.frz_own (l := l46) rfl trivial (by simp)) .nil))))) p2))
       ·refine ifF hc17 ?_
        refine lpC (τ := (List UInt8) × Int × (List Q0)) (fun ⟨body77, i78, _⟩ => (.any :: .any :: iI most :: .ptr 0 0 :: .any :: .any :: .ptr 1 0 :: a4 (.p (.int .i64 (IntKind.wrap .i64 (c.Width + (IntKind.wrap .i64 v4)))) :: iS body77 :: iW v11 :: .ptr 2 0 :: iI (-1) :: .any :: .any :: iW i78 :: a16 (a16 (a16 (a16 (a16 (a16 (a16 (a16 (a8 ([])))))))))) : List AV)) (fun ⟨_, _, l79⟩ => (.cells (iI c.Code :: iI c.Kind :: iI c.Width :: .p (.bool c.Sized) :: .p (.bool c.Items) :: []) :: .cells (iI 0 :: iW 0 :: iS [] :: .p .nilSlice :: []) :: .cells (iI c.Kind :: iW 0 :: iS [] :: .slice 4 3 0 l79.length :: []) :: .cells (W8 Q0.cells l79) :: [] : List AObj)) (fun n1 ⟨body77, i78, l79⟩ => Yt R_polyglotref17_next N c most v4 v11 n1 body77 i78 l79) (((((s_1.take ((IntKind.wrap .i64 (c.Width + (IntKind.wrap .i64 v4))).toNat)).drop c.Width.toNat).take (((s_1.take ((IntKind.wrap .i64 (c.Width + (IntKind.wrap .i64 v4))).toNat)).drop c.Width.toNat).length)).drop c.Width.toNat), 0, []) h (fun i => i) ⟨(rW <| rE rfl <| rE rfl <| rW <| rE rfl <| rV <| rE rfl <| rE rfl <| rE rfl <| rE rfl <| rE rfl <| rW <| rE rfl <| rX <| rX <| rX <| rX <| rX <| rX <| rX <| rX <| rX <| rX <| rX <| rX <| rX <| rX <| rX <| rX <| rX <| rN), (hE rfl <| hE rfl <| hC rfl (rE rfl <| rE rfl <| rE rfl <| rS <| rN) <| hV lb <| hN), rfl, rfl, (roE rfl <| roE rfl <| roE rfl <| roE (Ql _ _ _) <| roN)⟩ fun n1 ⟨body77, i78, l79⟩ h => ?_
        simp only [Yt] at h
        apply iU h <;> intro h
        ·refine cP h hR_polyglotref17_next p3 fun v81 h => ?_
         apply iU h <;> intro h
         ·refine ifT (by unfold Q8; decide) ?_
          obtain rfl := Qj h; exact (Frz.tuple' (.cons q4n p2))
         ·apply iU h <;> intro h
          ·obtain rfl := Qj h; exact (Frz.tuple' (.cons q4n p2))
          ·refine Z1 ?_
           obtain ⟨hk85, h⟩ := Ql3 h
           refine Qb9 (Q39 (c := Q0.cells) (e := 4) (fun _ => rfl) (by simp) hk85) ?_
           refine Q8f (c := Q0.cells) [v81.1] rfl ?_
           refine kU h fun h => ?_
           refine kU h fun h => ?_
           show Exists _
           exact ⟨(n1, ((body77.take body77.length).drop v81.2.1.toNat), (IntKind.wrap .u64 (i78 + 1)), (l79 ++ [v81.1])), h, Nat.lt_succ_self _, (rho [0, 1, 2, 6]), ⟨(rW <| rE rfl <| rE rfl <| rW <| rE rfl <| rV <| rE rfl <| rE rfl <| rE rfl <| rE rfl <| rE rfl <| rW <| rE rfl <| rX <| rX <| rX <| rX <| rX <| rX <| rX <| rX <| rX <| rX <| rX <| rX <| rX <| rX <| rX <| rX <| rX <| rN), (hE rfl <| hE rfl <| hC rfl (rE rfl <| rE rfl <| rE rfl <| rL (by simp) rfl <| rN) <| hO rfl <| hN), rfl, rfl, (roE rfl <| roE rfl <| roE rfl <| roE (Ql _ _ _) <| roN)⟩⟩
        ·apply iU h <;> intro h
         ·obtain rfl := Qj h; exact (Frz.tuple' (.cons q4n p2))
         ·refine ifT hc15 ?_
          refine cK h V8 (.cons (Q0.frz_own (l := l79) rfl trivial (by simp)) .nil) fun v89 h => ?_
          apply iU h <;> intro h
          ·obtain rfl := Qj h; exact (Frz.tuple' (.cons q4n p2))
          ·obtain rfl := Qj h; exact (Frz.tuple' (.cons (Frz.agg' (.cons (.p _) (.cons (.p _) (.cons (.p _) (.cons (Q0.frz_own (l := l79) rfl trivial (by simp)) .nil))))) p2))
     ·refine ifO h (fun hc92 h => ?_) (fun hc92 h => ?_)
      ·apply iU h <;> intro h
       ·obtain rfl := Qj h; exact (Frz.tuple' (.cons q4n p2))
       ·refine ifT hc92 ?_
        refine xB h fun b94 h => ?_
        refine cP h Wz p1 fun v96 h => ?_
        apply iU h <;> intro h
        ·obtain rfl := Qj h; exact (Frz.tuple' (.cons q4n p2))
        ·apply iU h <;> intro h
         ·obtain rfl := Qj h; exact (Frz.tuple' (.cons q4n p2))
         ·refine Z1 ?_
          refine kU h fun h => ?_
          refine lpC (τ := (List UInt8) × Int × (List Q0)) (fun ⟨body119, i120, _⟩ => (.any :: .any :: iI most :: .ptr 0 0 :: .any :: .any :: .ptr 1 0 :: a4 (.p (.int .i64 (IntKind.wrap .i64 (c.Width + (IntKind.wrap .i64 v4)))) :: iS body119 :: iW v11 :: .ptr 2 0 :: iI (IntKind.wrap .i64 (b94.toNat : Int)) :: .any :: .any :: iW i120 :: a16 (a16 (a16 (a16 (a16 (a16 (a16 (a16 (a8 ([])))))))))) : List AV)) (fun ⟨_, _, l121⟩ => (.cells (iI c.Code :: iI c.Kind :: iI c.Width :: .p (.bool c.Sized) :: .p (.bool c.Items) :: []) :: .cells (iI 0 :: iW 0 :: iS [] :: .p .nilSlice :: []) :: .cells (iI c.Kind :: iW (IntKind.wrap .u64 v96.1.Kind) :: iS [] :: .slice 4 4 0 l121.length :: []) :: .cells (iI v96.1.Code :: iI v96.1.Kind :: iI v96.1.Width :: .p (.bool v96.1.Sized) :: .p (.bool v96.1.Items) :: []) :: .cells (W8 Q0.cells l121) :: [] : List AObj)) (fun n2 ⟨body119, i120, l121⟩ => Yx R_polyglotref17_next N c most v4 v11 b94 v96 n2 body119 i120 l121) (((((((s_1.take ((IntKind.wrap .i64 (c.Width + (IntKind.wrap .i64 v4))).toNat)).drop c.Width.toNat).take (((s_1.take ((IntKind.wrap .i64 (c.Width + (IntKind.wrap .i64 v4))).toNat)).drop c.Width.toNat).length)).drop c.Width.toNat).take (((((s_1.take ((IntKind.wrap .i64 (c.Width + (IntKind.wrap .i64 v4))).toNat)).drop c.Width.toNat).take (((s_1.take ((IntKind.wrap .i64 (c.Width + (IntKind.wrap .i64 v4))).toNat)).drop c.Width.toNat).length)).drop c.Width.toNat).length)).drop 1), 0, []) h (fun i => i) ⟨(rW <| rE rfl <| rE rfl <| rW <| rE rfl <| rV <| rE rfl <| rE rfl <| rE rfl <| rE rfl <| rE rfl <| rW <| rE rfl <| rX <| rX <| rX <| rX <| rX <| rX <| rX <| rX <| rX <| rX <| rX <| rX <| rX <| rX <| rX <| rX <| rX <| rN), (hE rfl <| hE rfl <| hC rfl (rE rfl <| rE rfl <| rE rfl <| rS <| rN) <| hE rfl <| hV lb <| hN), rfl, rfl, (roE rfl <| roE rfl <| roE rfl <| roE rfl <| roE (Ql _ _ _) <| roN)⟩ fun n2 ⟨body119, i120, l121⟩ h => ?_
          simp only [Yx] at h
          apply iU h <;> intro h
          ·refine cP h hR_polyglotref17_next p3 fun v123 h => ?_
           apply iU h <;> intro h
           ·refine ifT (by unfold Q8; decide) ?_
            obtain rfl := Qj h; exact (Frz.tuple' (.cons q4n p2))
           ·apply iU h <;> intro h
            ·obtain rfl := Qj h; exact (Frz.tuple' (.cons q4n p2))
            ·refine Z1 ?_
             obtain ⟨hk127, h⟩ := Ql3 h
             refine Qb9 (Q39 (c := Q0.cells) (e := 4) (fun _ => rfl) (by simp) hk127) ?_
             refine Q8f (c := Q0.cells) [v123.1] rfl ?_
             refine kU h fun h => ?_
             refine kU h fun h => ?_
             show Exists _
             exact ⟨(n2, ((body119.take body119.length).drop v123.2.1.toNat), (IntKind.wrap .u64 (i120 + 1)), (l121 ++ [v123.1])), h, Nat.lt_succ_self _, (rho [0, 1, 2, 3, 7]), ⟨(rW <| rE rfl <| rE rfl <| rW <| rE rfl <| rV <| rE rfl <| rE rfl <| rE rfl <| rE rfl <| rE rfl <| rW <| rE rfl <| rX <| rX <| rX <| rX <| rX <| rX <| rX <| rX <| rX <| rX <| rX <| rX <| rX <| rX <| rX <| rX <| rX <| rN), (hE rfl <| hE rfl <| hC rfl (rE rfl <| rE rfl <| rE rfl <| rL (by simp) rfl <| rN) <| hE rfl <| hO rfl <| hN), rfl, rfl, (roE rfl <| roE rfl <| roE rfl <| roE rfl <| roE (Ql _ _ _) <| roN)⟩⟩
          ·apply iU h <;> intro h
           ·obtain rfl := Qj h; exact (Frz.tuple' (.cons q4n p2))
           ·refine ifF hc15 ?_
            obtain rfl := Qj h; exact (Frz.tuple' (.cons (Frz.agg' (.cons (.p _) (.cons (.p _) (.cons (.p _) (.cons (Q0.frz_own (l := l121) rfl trivial (by simp)) .nil))))) p2))
      ·refine ifF hc92 ?_
       refine lpC (τ := (List UInt8) × Int × (List Q0)) (fun ⟨body149, i150, _⟩ => (.any :: .any :: iI most :: .ptr 0 0 :: .any :: .any :: .ptr 1 0 :: a4 (.p (.int .i64 (IntKind.wrap .i64 (c.Width + (IntKind.wrap .i64 v4)))) :: iS body149 :: iW v11 :: .ptr 2 0 :: iI (-1) :: .any :: .any :: iW i150 :: a16 (a16 (a16 (a16 (a16 (a16 (a16 (a16 (a8 ([])))))))))) : List AV)) (fun ⟨_, _, l151⟩ => (.cells (iI c.Code :: iI c.Kind :: iI c.Width :: .p (.bool c.Sized) :: .p (.bool c.Items) :: []) :: .cells (iI 0 :: iW 0 :: iS [] :: .p .nilSlice :: []) :: .cells (iI c.Kind :: iW 0 :: iS [] :: .slice 4 3 0 l151.length :: []) :: .cells (W8 Q0.cells l151) :: [] : List AObj)) (fun n3 ⟨body149, i150, l151⟩ => Yz R_polyglotref17_next N c most v4 v11 n3 body149 i150 l151) (((((s_1.take ((IntKind.wrap .i64 (c.Width + (IntKind.wrap .i64 v4))).toNat)).drop c.Width.toNat).take (((s_1.take ((IntKind.wrap .i64 (c.Width + (IntKind.wrap .i64 v4))).toNat)).drop c.Width.toNat).length)).drop c.Width.toNat), 0, []) h (fun i => i) ⟨(rW <| rE rfl <| rE rfl <| rW <| rE rfl <| rV <| rE rfl <| rE rfl <| rE rfl <| rE rfl <| rE rfl <| rW <| rE rfl <| rX <| rX <| rX <| rX <| rX <| rX <| rX <| rX <| rX <| rX <| rX <| rX <| rX <| rX <| rX <| rX <| rX <| rN), (hE rfl <| hE rfl <| hC rfl (rE rfl <| rE rfl <| rE rfl <| rS <| rN) <| hV lb <| hN), rfl, rfl, (roE rfl <| roE rfl <| roE rfl <| roE (Ql _ _ _) <| roN)⟩ fun n3 ⟨body149, i150, l151⟩ h => ?_
       simp only [Yz] at h
       apply iU h <;> intro h
       ·refine cP h hR_polyglotref17_next p3 fun v153 h => ?_
        apply iU h <;> intro h
        ·refine ifT (by unfold Q8; decide) ?_
         obtain rfl := Qj h; exact (Frz.tuple' (.cons q4n p2))
        ·apply iU h <;> intro h
         ·obtain rfl := Qj h; exact (Frz.tuple' (.cons q4n p2))
         ·refine Z1 ?_
          obtain ⟨hk157, h⟩ := Ql3 h
          refine Qb9 (Q39 (c := Q0.cells) (e := 4) (fun _ => rfl) (by simp) hk157) ?_
          refine Q8f (c := Q0.cells) [v153.1] rfl ?_
          refine kU h fun h => ?_
          refine kU h fun h => ?_
          show Exists _
          exact ⟨(n3, ((body149.take body149.length).drop v153.2.1.toNat), (IntKind.wrap .u64 (i150 + 1)), (l151 ++ [v153.1])), h, Nat.lt_succ_self _, (rho [0, 1, 2, 6]), ⟨(rW <| rE rfl <| rE rfl <| rW <| rE rfl <| rV <| rE rfl <| rE rfl <| rE rfl <| rE rfl <| rE rfl <| rW <| rE rfl <| rX <| rX <| rX <| rX <| rX <| rX <| rX <| rX <| rX <| rX <| rX <| rX <| rX <| rX <| rX <| rX <| rX <| rN), (hE rfl <| hE rfl <| hC rfl (rE rfl <| rE rfl <| rE rfl <| rL (by simp) rfl <| rN) <| hO rfl <| hN), rfl, rfl, (roE rfl <| roE rfl <| roE rfl <| roE (Ql _ _ _) <| roN)⟩⟩
       ·apply iU h <;> intro h
        ·obtain rfl := Qj h; exact (Frz.tuple' (.cons q4n p2))
        ·refine ifF hc15 ?_
         obtain rfl := Qj h; exact (Frz.tuple' (.cons (Frz.agg' (.cons (.p _) (.cons (.p _) (.cons (.p _) (.cons (Q0.frz_own (l := l151) rfl trivial (by simp)) .nil))))) p2))
def Yi (R_polyglotref17_Read : (List UInt8) → Int → Option (Q0 × Int × Int)) (R_polyglotref17_Data : Int → (List UInt8) → Int → Option (Q0 × Int × Int)) (R_polyglotref17_sized : Qg → (List UInt8) → Int → Option (Q0 × Int × Int)) (R_polyglotref17_next : Int → (List UInt8) → Int → Option (Q0 × Int × Int)) (_N : Nat) (code : Int) (s_1 : List UInt8) (most : Int) : Option (Q0 × Int × Int) :=
 cond (Q8 .lss code 0)
 ((R_polyglotref17_Read s_1 most).bind fun v2 =>
 some (v2.1, v2.2.1, v2.2.2))
 ((R_polyglotref17_Data code s_1 most).bind fun v4 =>
 some (v4.1, v4.2.1, v4.2.2))
theorem Q15 {R_polyglotref17_Read : (List UInt8) → Int → Option (Q0 × Int × Int)} {R_polyglotref17_Data : Int → (List UInt8) → Int → Option (Q0 × Int × Int)} {R_polyglotref17_sized : Qg → (List UInt8) → Int → Option (Q0 × Int × Int)} {R_polyglotref17_next : Int → (List UInt8) → Int → Option (Q0 × Int × Int)} (hR_polyglotref17_Read : ∀ {s_0} {most} {r}, R_polyglotref17_Read s_0 most = some r → Zj Tryz.prog G1 18 [.str s_0, .int .i64 most] (.tuple [.agg (Q0.cells r.1), .int .i64 r.2.1, .int .i64 r.2.2])) (hR_polyglotref17_Data : ∀ {code} {s_1} {most} {r}, R_polyglotref17_Data code s_1 most = some r → Zj Tryz.prog G1 65 [.int .i64 code, .str s_1, .int .i64 most] (.tuple [.agg (Q0.cells r.1), .int .i64 r.2.1, .int .i64 r.2.2])) (hR_polyglotref17_sized : ∀ {c} {s_1} {most} {r}, R_polyglotref17_sized c s_1 most = some r → Zj Tryz.prog G1 98 [.agg (Qg.cells c), .str s_1, .int .i64 most] (.tuple [.agg (Q0.cells r.1), .int .i64 r.2.1, .int .i64 r.2.2])) (hR_polyglotref17_next : ∀ {code} {s_1} {most} {r}, R_polyglotref17_next code s_1 most = some r → Zj Tryz.prog G1 120 [.int .i64 code, .str s_1, .int .i64 most] (.tuple [.agg (Q0.cells r.1), .int .i64 r.2.1, .int .i64 r.2.2])) {N} {code} {s_1} {most} {r} (h : Yi R_polyglotref17_Read R_polyglotref17_Data R_polyglotref17_sized R_polyglotref17_next N code s_1 most = some r) : Zj Tryz.prog G1 120 [.int .i64 code, .str s_1, .int .i64 most] (.tuple [.agg (Q0.cells r.1), .int .i64 r.2.1, .int .i64 r.2.2]) := by
 refine Q4 Qu5 ?_
 unfold Yi at h
 apply iU h <;> intro h
 ·refine cP h hR_polyglotref17_Read p2 fun v2 h => ?_
  obtain rfl := Qj h; exact (Frz.tuple' (.cons q4 p2))
 ·refine cP h hR_polyglotref17_Data p3 fun v4 h => ?_
  obtain rfl := Qj h; exact (Frz.tuple' (.cons q4 p2))
def Q7 : Nat → ((List UInt8) → Int → Option (Q0 × Int × Int)) × (Int → (List UInt8) → Int → Option (Q0 × Int × Int)) × (Qg → (List UInt8) → Int → Option (Q0 × Int × Int)) × (Int → (List UInt8) → Int → Option (Q0 × Int × Int))
 | 0 => (fun _ _ => none, fun _ _ _ => none, fun _ _ _ => none, fun _ _ _ => none)
 | N + 1 => (W9 ((Q7 N).1) ((Q7 N).2.1) ((Q7 N).2.2.1) ((Q7 N).2.2.2) N, Yg ((Q7 N).1) ((Q7 N).2.1) ((Q7 N).2.2.1) ((Q7 N).2.2.2) N, Ys ((Q7 N).1) ((Q7 N).2.1) ((Q7 N).2.2.1) ((Q7 N).2.2.2) N, Yi ((Q7 N).1) ((Q7 N).2.1) ((Q7 N).2.2.1) ((Q7 N).2.2.2) N)
def Qw (N : Nat) : (List UInt8) → Int → Option (Q0 × Int × Int) := (Q7 N).1
def Zs (N : Nat) : Int → (List UInt8) → Int → Option (Q0 × Int × Int) := (Q7 N).2.1
def Yw (N : Nat) : Qg → (List UInt8) → Int → Option (Q0 × Int × Int) := (Q7 N).2.2.1
def Xa (N : Nat) : Int → (List UInt8) → Int → Option (Q0 × Int × Int) := (Q7 N).2.2.2
theorem Q0z : ∀ N, (∀ {s_0 : List UInt8} {most : Int} {r : Q0 × Int × Int}, (Q7 N).1 s_0 most = some r → Zj Tryz.prog G1 18 [.str s_0, .int .i64 most] (.tuple [.agg (Q0.cells r.1), .int .i64 r.2.1, .int .i64 r.2.2])) ∧ (∀ {code : Int} {s_1 : List UInt8} {most : Int} {r : Q0 × Int × Int}, (Q7 N).2.1 code s_1 most = some r → Zj Tryz.prog G1 65 [.int .i64 code, .str s_1, .int .i64 most] (.tuple [.agg (Q0.cells r.1), .int .i64 r.2.1, .int .i64 r.2.2])) ∧ (∀ {c : Qg} {s_1 : List UInt8} {most : Int} {r : Q0 × Int × Int}, (Q7 N).2.2.1 c s_1 most = some r → Zj Tryz.prog G1 98 [.agg (Qg.cells c), .str s_1, .int .i64 most] (.tuple [.agg (Q0.cells r.1), .int .i64 r.2.1, .int .i64 r.2.2])) ∧ (∀ {code : Int} {s_1 : List UInt8} {most : Int} {r : Q0 × Int × Int}, (Q7 N).2.2.2 code s_1 most = some r → Zj Tryz.prog G1 120 [.int .i64 code, .str s_1, .int .i64 most] (.tuple [.agg (Q0.cells r.1), .int .i64 r.2.1, .int .i64 r.2.2])) := by
 intro N
 induction N with
 | zero => exact ⟨(fun h => by simp [Q7] at h), (fun h => by simp [Q7] at h), (fun h => by simp [Q7] at h), (fun h => by simp [Q7] at h)⟩
 | succ N ih => exact ⟨(fun h => Q1g (N := N) (fun h => ih.1 h) (fun h => ih.2.1 h) (fun h => ih.2.2.1 h) (fun h => ih.2.2.2 h) h), (fun h => Q1j (N := N) (fun h => ih.1 h) (fun h => ih.2.1 h) (fun h => ih.2.2.1 h) (fun h => ih.2.2.2 h) h), (fun h => Q0a (N := N) (fun h => ih.1 h) (fun h => ih.2.1 h) (fun h => ih.2.2.1 h) (fun h => ih.2.2.2 h) h), (fun h => Q15 (N := N) (fun h => ih.1 h) (fun h => ih.2.1 h) (fun h => ih.2.2.1 h) (fun h => ih.2.2.2 h) h)⟩
theorem Q16 {N : Nat} {s_0 : List UInt8} {most : Int} {r : Q0 × Int × Int} (h : Qw N s_0 most = some r) : Zj Tryz.prog G1 18 [.str s_0, .int .i64 most] (.tuple [.agg (Q0.cells r.1), .int .i64 r.2.1, .int .i64 r.2.2]) := (Q0z N).1 h
def Zk (R_polyglotkit_SameValue : Q0 → Q0 → Option (Bool)) (N : Nat) (a : Q0) (b : Q0) : Nat → Int → Option (Bool)
 | 0, _ => none
 | n + 1, i22 =>
  cond (Q8 .lss i22 ((Q0.rows a.Items).length : Int))
  ((idx a.Items i22).bind fun y24 =>
  (idx b.Items i22).bind fun y26 =>
  (R_polyglotkit_SameValue y24 y26).bind fun v28 =>
  cond (!v28)
  (some false)
  (Zk R_polyglotkit_SameValue N a b n (IntKind.wrap .i64 (i22 + 1))))
  (some true)
def Wf (R_polyglotkit_SameValue : Q0 → Q0 → Option (Bool)) (N : Nat) (a : Q0) (b : Q0) : Option (Bool) :=
 cond (Q8 .neq a.Kind b.Kind)
 (some false)
 (cond (Q8 .neq a.N' b.N')
 (some false)
 (cond (Q14 .neq a.Text b.Text)
 (some false)
 (cond (Q8 .neq ((Q0.rows a.Items).length : Int) ((Q0.rows b.Items).length : Int))
 (some false)
 (Zk R_polyglotkit_SameValue N a b N 0))))
theorem Gr {R_polyglotkit_SameValue : Q0 → Q0 → Option (Bool)} (hR_polyglotkit_SameValue : ∀ {a} {b} {r}, R_polyglotkit_SameValue a b = some r → Zj Tryz.prog G1 19 [.agg (Q0.cells a), .agg (Q0.cells b)] (.bool r)) {N} {a} {b} {r} (h : Wf R_polyglotkit_SameValue N a b = some r) : Zj Tryz.prog G1 19 [.agg (Q0.cells a), .agg (Q0.cells b)] (.bool r) := by
 refine Q4 k19 ?_
 unfold Wf at h
 apply iU h <;> intro h
 ·cases h; exact (.p _)
 ·apply iU h <;> intro h
  ·cases h; exact (.p _)
  ·apply iU h <;> intro h
   ·cases h; exact (.p _)
   ·apply iU h <;> intro h
    ·cases h; exact (.p _)
    ·refine lpC (τ := Int) (fun i22 => (.any :: .any :: .ptr 0 0 :: .ptr 1 0 :: .any :: iI i22 :: a16 (a16 (a8 (a4 (a2 (.any :: []))))) : List AV)) (fun _ => (.cells (iI a.Kind :: iW a.N' :: iS a.Text :: .p (.slice 4 (Q0.rows a.Items)) :: []) :: .cells (iI b.Kind :: iW b.N' :: iS b.Text :: .p (.slice 4 (Q0.rows b.Items)) :: []) :: [] : List AObj)) (fun n0 i22 => Zk R_polyglotkit_SameValue N a b n0 i22) (0) h (fun i => i) ⟨(rW <| rE rfl <| rE rfl <| rA <| rE rfl <| rX <| rX <| rX <| rX <| rX <| rV <| rW <| rA <| rN), (hE rfl <| hE rfl <| hN), rfl, rfl, (roE rfl <| roE rfl <| roN)⟩ fun n0 i22 h => ?_
     simp only [Zk] at h
     apply iU h <;> intro h
     ·refine Z1 ?_
      refine Q0.xR h fun y24 h => ?_
      refine Q0.xR h fun y26 h => ?_
      refine cD h hR_polyglotkit_SameValue (.cons q4 (.cons q4 .nil)) fun v28 h => ?_
      apply iU h <;> intro h
      ·cases h; exact (.p _)
      ·show Exists _
       exact ⟨(n0, (IntKind.wrap .i64 (i22 + 1))), h, Nat.lt_succ_self _, (fun i => i), ⟨(rW <| rE rfl <| rE rfl <| rA <| rE rfl <| rX <| rX <| rX <| rX <| rX <| rV <| rW <| rA <| rN), (hE rfl <| hE rfl <| hN), rfl, rfl, (roE rfl <| roE rfl <| roN)⟩⟩
     ·cases h; exact (.p _)
def Qp : Nat → Q0 → Q0 → Option (Bool)
 | 0 => fun _ _ => none
 | N + 1 => Wf (Qp N) N
theorem Xe {N} {a} {b} {r} (h : Qp N a b = some r) : Zj Tryz.prog G1 19 [.agg (Q0.cells a), .agg (Q0.cells b)] (.bool r) := by
 induction N generalizing a b r with
 | zero => simp [Qp] at h
 | succ N ih => exact Gr (fun h => ih h) h
def Yp (R_polyglotkit_nodes : Q0 → Int → Int → Option (Int)) (N : Nat) (v : Q0) (deep : Int) (most : Int) : Nat → Int → Int → Option (Int)
 | 0, _, _ => none
 | n + 1, n18, i19 =>
  cond (Q8 .lss i19 ((Q0.rows v.Items).length : Int))
  (cond (Q8 .leq n18 most)
  ((idx v.Items i19).bind fun y22 =>
  (R_polyglotkit_nodes y22 (IntKind.wrap .i64 (deep - 1)) (IntKind.wrap .i64 (most - n18))).bind fun v24 =>
  Yp R_polyglotkit_nodes N v deep most n (IntKind.wrap .i64 (n18 + v24)) (IntKind.wrap .i64 (i19 + 1)))
  (some n18))
  (some n18)
def Vg (R_polyglotkit_nodes : Q0 → Int → Int → Option (Int)) (N : Nat) (v : Q0) (deep : Int) (most : Int) : Option (Int) :=
 cond (Q8 .lss deep 0)
 (some (IntKind.wrap .i64 (most + 1)))
 (cond (Q8 .gtr ((Q0.rows v.Items).length : Int) most)
 (some (IntKind.wrap .i64 (most + 1)))
 (cond (Q8 .gtr (v.Text.length : Int) 400)
 (some (IntKind.wrap .i64 (most + 1)))
 (Yp R_polyglotkit_nodes N v deep most N 1 0)))
theorem Q1t {R_polyglotkit_nodes : Q0 → Int → Int → Option (Int)} (hR_polyglotkit_nodes : ∀ {v} {deep} {most} {r}, R_polyglotkit_nodes v deep most = some r → Zj Tryz.prog G1 66 [.agg (Q0.cells v), .int .i64 deep, .int .i64 most] (.int .i64 r)) {N} {v} {deep} {most} {r} (h : Vg R_polyglotkit_nodes N v deep most = some r) : Zj Tryz.prog G1 66 [.agg (Q0.cells v), .int .i64 deep, .int .i64 most] (.int .i64 r) := by
 refine Q4 k66 ?_
 unfold Vg at h
 apply iU h <;> intro h
 ·cases h; exact (.p _)
 ·apply iU h <;> intro h
  ·cases h; exact (.p _)
  ·apply iU h <;> intro h
   ·cases h; exact (.p _)
   ·refine lpC (τ := Int × Int) (fun ⟨n18, i19⟩ => (.any :: iI deep :: iI most :: .ptr 0 0 :: a2 (.any :: iI n18 :: iI i19 :: a16 (a16 (a8 (a2 (.any :: []))))) : List AV)) (fun ⟨_, _⟩ => (.cells (iI v.Kind :: iW v.N' :: iS v.Text :: .p (.slice 4 (Q0.rows v.Items)) :: []) :: [] : List AObj)) (fun n0 ⟨n18, i19⟩ => Yp R_polyglotkit_nodes N v deep most n0 n18 i19) (1, 0) h (fun i => i) ⟨(rA <| rE rfl <| rE rfl <| rE rfl <| rW <| rA <| rE rfl <| rE rfl <| rX <| rX <| rX <| rX <| rX <| rW <| rA <| rN), (hE rfl <| hN), rfl, rfl, (roE rfl <| roN)⟩ fun n0 ⟨n18, i19⟩ h => ?_
    simp only [Yp] at h
    apply iU h <;> intro h
    ·apply iU h <;> intro h
     ·refine Q0.xR h fun y22 h => ?_
      refine cP h hR_polyglotkit_nodes (.cons q4 p2) fun v24 h => ?_
      show Exists _
      exact ⟨(n0, (IntKind.wrap .i64 (n18 + v24)), (IntKind.wrap .i64 (i19 + 1))), h, Nat.lt_succ_self _, (fun i => i), ⟨(rA <| rE rfl <| rE rfl <| rE rfl <| rW <| rA <| rE rfl <| rE rfl <| rX <| rX <| rX <| rX <| rX <| rW <| rA <| rN), (hE rfl <| hN), rfl, rfl, (roE rfl <| roN)⟩⟩
     ·cases h; exact (.p _)
    ·cases h; exact (.p _)
def Yq : Nat → Q0 → Int → Int → Option (Int)
 | 0 => fun _ _ _ => none
 | N + 1 => Vg (Yq N) N
theorem Q1q {N} {v} {deep} {most} {r} (h : Yq N v deep most = some r) : Zj Tryz.prog G1 66 [.agg (Q0.cells v), .int .i64 deep, .int .i64 most] (.int .i64 r) := by
 induction N generalizing v deep most r with
 | zero => simp [Yq] at h
 | succ N ih => exact Q1t (fun h => ih h) h
def Zz (N : Nat) (v : Q0) : Option (Bool) :=
 (Yq N v 6 40).bind fun v1 =>
 some (Q8 .leq v1 40)
theorem Vs {N} {v} {r} (h : Zz N v = some r) : Zj Tryz.prog G1 20 [.agg (Q0.cells v)] (.bool r) := by
 refine Q4 k20 ?_
 unfold Zz at h
 refine cP h Q1q (.cons q4 p2) fun v1 h => ?_
 cases h; exact (.p _)
def W1 (R_amqvalue_Same : Q0 → Q0 → Option (Bool)) (N : Nat) (a : Q0) (b : Q0) : Nat → Int → Option (Bool)
 | 0, _ => none
 | n + 1, s22 =>
  cond (Q8 .lss s22 ((Q0.rows a.Items).length : Int))
  ((idx a.Items s22).bind fun y24 =>
  (idx b.Items s22).bind fun y26 =>
  (R_amqvalue_Same y24 y26).bind fun v28 =>
  cond (!v28)
  (some false)
  (W1 R_amqvalue_Same N a b n (IntKind.wrap .i64 (s22 + 1))))
  (some true)
def Ul (R_amqvalue_Same : Q0 → Q0 → Option (Bool)) (N : Nat) (a : Q0) (b : Q0) : Option (Bool) :=
 cond (Q8 .neq a.Kind b.Kind)
 (some false)
 (cond (Q8 .neq a.N' b.N')
 (some false)
 (cond (Q14 .neq a.Text b.Text)
 (some false)
 (cond (Q8 .neq ((Q0.rows a.Items).length : Int) ((Q0.rows b.Items).length : Int))
 (some false)
 (W1 R_amqvalue_Same N a b N 0))))
theorem Q4q {R_amqvalue_Same : Q0 → Q0 → Option (Bool)} (hR_amqvalue_Same : ∀ {a} {b} {r}, R_amqvalue_Same a b = some r → Zj Tryz.prog G1 67 [.agg (Q0.cells a), .agg (Q0.cells b)] (.bool r)) {N} {a} {b} {r} (h : Ul R_amqvalue_Same N a b = some r) : Zj Tryz.prog G1 67 [.agg (Q0.cells a), .agg (Q0.cells b)] (.bool r) := by
 refine Q4 k67 ?_
 unfold Ul at h
 apply iU h <;> intro h
 ·cases h; exact (.p _)
 ·apply iU h <;> intro h
  ·cases h; exact (.p _)
  ·apply iU h <;> intro h
   ·cases h; exact (.p _)
   ·apply iU h <;> intro h
    ·cases h; exact (.p _)
    ·refine lpC (τ := Int) (fun s22 => (.any :: .any :: .ptr 0 0 :: .ptr 1 0 :: a16 (a16 (iI ((Q0.rows a.Items).length : Int) :: iI s22 :: a8 (a4 (a2 (.any :: []))))) : List AV)) (fun _ => (.cells (iI a.Kind :: iW a.N' :: iS a.Text :: .p (.slice 4 (Q0.rows a.Items)) :: []) :: .cells (iI b.Kind :: iW b.N' :: iS b.Text :: .p (.slice 4 (Q0.rows b.Items)) :: []) :: [] : List AObj)) (fun n0 s22 => W1 R_amqvalue_Same N a b n0 s22) (0) h (fun i => i) ⟨(rW <| rE rfl <| rE rfl <| rX <| rX <| rX <| rX <| rE rfl <| rE rfl <| rX <| rV <| rW <| rA <| rN), (hE rfl <| hE rfl <| hN), rfl, rfl, (roE rfl <| roE rfl <| roN)⟩ fun n0 s22 h => ?_
     simp only [W1] at h
     apply iU h <;> intro h
     ·refine Z1 ?_
      refine Q0.xR h fun y24 h => ?_
      refine Q0.xR h fun y26 h => ?_
      refine cD h hR_amqvalue_Same (.cons q4 (.cons q4 .nil)) fun v28 h => ?_
      apply iU h <;> intro h
      ·cases h; exact (.p _)
      ·show Exists _
       exact ⟨(n0, (IntKind.wrap .i64 (s22 + 1))), h, Nat.lt_succ_self _, (fun i => i), ⟨(rW <| rE rfl <| rE rfl <| rX <| rX <| rX <| rX <| rE rfl <| rE rfl <| rX <| rV <| rW <| rA <| rN), (hE rfl <| hE rfl <| hN), rfl, rfl, (roE rfl <| roE rfl <| roN)⟩⟩
     ·cases h; exact (.p _)
def Wr : Nat → Q0 → Q0 → Option (Bool)
 | 0 => fun _ _ => none
 | N + 1 => Ul (Wr N) N
theorem Q3w {N} {a} {b} {r} (h : Wr N a b = some r) : Zj Tryz.prog G1 67 [.agg (Q0.cells a), .agg (Q0.cells b)] (.bool r) := by
 induction N generalizing a b r with
 | zero => simp [Wr] at h
 | succ N ih => exact Q4q (fun h => ih h) h
def Wk (N : Nat) (v : Q0) : Option (Bool) :=
 (Zn N v).bind fun v1 =>
 (Wr N v v1).bind fun v3 =>
 some v3
theorem Jp {N} {v} {r} (h : Wk N v = some r) : Zj Tryz.prog G1 22 [.agg (Q0.cells v)] (.bool r) := by
 refine Q4 k22 ?_
 unfold Wk at h
 refine Z1 ?_
 refine cD h V1 (.cons q4 .nil) fun v1 h => ?_
 refine cD h Q3w (.cons q4 p1) fun v3 h => ?_
 cases h; exact (.p _)
def Xf (_N : Nat) (v : Q0) : Option (Bool) :=
 cond (Q14 .neq v.Text [])
 (some false)
 (cond (!(Q8 .eql v.Kind 24))
 (cond (Q8 .neq v.N' 0)
 (some false)
 (cond (Q8 .eql v.Kind 24)
 (cond (Q8 .geq v.N' 1)
 (some (Q8 .leq v.N' 24))
 (some false))
 (cond (Q8 .eql v.Kind 25)
 (some (Q8 .eql ((Q0.rows v.Items).length : Int) 2))
 (cond (Q8 .neq v.Kind 23)
 (some true)
 (some (Q8 .eql ((((Q0.rows v.Items).length : Int) : Int).tmod 2) 0))))))
 (cond (Q8 .eql v.Kind 24)
 (cond (Q8 .geq v.N' 1)
 (some (Q8 .leq v.N' 24))
 (some false))
 (cond (Q8 .eql v.Kind 25)
 (some (Q8 .eql ((Q0.rows v.Items).length : Int) 2))
 (cond (Q8 .neq v.Kind 23)
 (some true)
 (some (Q8 .eql ((((Q0.rows v.Items).length : Int) : Int).tmod 2) 0))))))
theorem Q09 {N} {v} {r} (h : Xf N v = some r) : Zj Tryz.prog G1 99 [.agg (Q0.cells v)] (.bool r) := by
 refine Q4 k99 ?_
 unfold Xf at h
 apply iU h <;> intro h
 ·cases h; exact (.p _)
 ·apply iU h <;> intro h
  ·apply iU h <;> intro h
   ·cases h; exact (.p _)
   ·apply iU h <;> intro h
    ·apply iU h <;> intro h
     ·cases h; exact (.p _)
     ·cases h; exact (.p _)
    ·apply iU h <;> intro h
     ·cases h; exact (.p _)
     ·apply iU h <;> intro h
      ·cases h; exact (.p _)
      ·cases h; exact (.p _)
  ·apply iU h <;> intro h
   ·apply iU h <;> intro h
    ·cases h; exact (.p _)
    ·cases h; exact (.p _)
   ·apply iU h <;> intro h
    ·cases h; exact (.p _)
    ·apply iU h <;> intro h
     ·cases h; exact (.p _)
     ·cases h; exact (.p _)
def Zh (R_polyglotref17_check : Q0 → Int → Option (Int)) (N : Nat) (v : Q0) (most : Int) : Nat → Int → Option (Int)
 | 0, _ => none
 | n + 1, i42 =>
  cond (Q8 .lss i42 ((Q0.rows v.Items).length : Int))
  (cond (Q8 .eql v.Kind 24)
  ((idx v.Items i42).bind fun y45 =>
  cond (Q8 .neq (IntKind.wrap .u64 y45.Kind) v.N')
  (some 8)
  ((idx v.Items i42).bind fun y48 =>
  (R_polyglotref17_check y48 (IntKind.wrap .i64 (most - 1))).bind fun v50 =>
  cond (Q8 .neq v50 0)
  (some v50)
  (Zh R_polyglotref17_check N v most n (IntKind.wrap .i64 (i42 + 1)))))
  ((idx v.Items i42).bind fun y53 =>
  (R_polyglotref17_check y53 (IntKind.wrap .i64 (most - 1))).bind fun v55 =>
  cond (Q8 .neq v55 0)
  (some v55)
  (Zh R_polyglotref17_check N v most n (IntKind.wrap .i64 (i42 + 1)))))
  (cond (Q8 .eql v.Kind 23)
  ((Zi N v.Items).bind fun v59 =>
  cond v59
  (some 16)
  (some 0))
  (some 0))
def V0 (R_polyglotref17_check : Q0 → Int → Option (Int)) (N : Nat) (v : Q0) (most : Int) : Option (Int) :=
 cond (Q8 .lss v.Kind 1)
 (some 8)
 (cond (Q8 .gtr v.Kind 25)
 (some 8)
 (cond (Q8 .leq v.Kind 21)
 ((Qr N v).bind fun v4 =>
 some v4)
 (cond (Q8 .eql most 0)
 (some 14)
 ((Xf N v).bind fun v7 =>
 cond (!v7)
 (some 2)
 (cond (Q8 .gtr ((Q0.rows v.Items).length : Int) 1000)
 (some 4)
 (Zh R_polyglotref17_check N v most N 0))))))
theorem Q0b {R_polyglotref17_check : Q0 → Int → Option (Int)} (hR_polyglotref17_check : ∀ {v} {most} {r}, R_polyglotref17_check v most = some r → Zj Tryz.prog G1 68 [.agg (Q0.cells v), .int .i64 most] (.int .i64 r)) {N} {v} {most} {r} (h : V0 R_polyglotref17_check N v most = some r) : Zj Tryz.prog G1 68 [.agg (Q0.cells v), .int .i64 most] (.int .i64 r) := by
 refine Q4 k68 ?_
 unfold V0 at h
 apply iU h <;> intro h
 ·cases h; exact (.p _)
 ·apply iU h <;> intro h
  ·cases h; exact (.p _)
  ·apply iU h <;> intro h
   ·refine cP h Y0 (.cons q4 .nil) fun v4 h => ?_
    cases h; exact (.p _)
   ·apply iU h <;> intro h
    ·cases h; exact (.p _)
    ·refine cP h Q09 (.cons q4 .nil) fun v7 h => ?_
     apply iU h <;> intro h
     ·cases h; exact (.p _)
     ·apply iU h <;> intro h
      ·cases h; exact (.p _)
      ·refine lpC (τ := Int) (fun i42 => (.any :: iI most :: .ptr 0 0 :: .any :: .any :: iI i42 :: a16 (a16 (a16 (a16 (a2 (.any :: []))))) : List AV)) (fun _ => (.cells (iI v.Kind :: iW v.N' :: iS v.Text :: .p (.slice 4 (Q0.rows v.Items)) :: []) :: [] : List AObj)) (fun n0 i42 => Zh R_polyglotref17_check N v most n0 i42) (0) h (fun i => i) ⟨(rA <| rE rfl <| rE rfl <| rW <| rE rfl <| rX <| rX <| rX <| rX <| rX <| rX <| rX <| rX <| rW <| rA <| rN), (hE rfl <| hN), rfl, rfl, (roE rfl <| roN)⟩ fun n0 i42 h => ?_
       simp only [Zh] at h
       apply iU h <;> intro h
       ·refine Z1 ?_
        apply iU h <;> intro h
        ·refine Q0.xR h fun y45 h => ?_
         apply iU h <;> intro h
         ·cases h; exact (.p _)
         ·refine Q0.xR h fun y48 h => ?_
          refine cP h hR_polyglotref17_check (.cons q4 p1) fun v50 h => ?_
          apply iU h <;> intro h
          ·cases h; exact (.p _)
          ·show Exists _
           exact ⟨(n0, (IntKind.wrap .i64 (i42 + 1))), h, Nat.lt_succ_self _, (fun i => i), ⟨(rA <| rE rfl <| rE rfl <| rW <| rE rfl <| rX <| rX <| rX <| rX <| rX <| rX <| rX <| rX <| rW <| rA <| rN), (hE rfl <| hN), rfl, rfl, (roE rfl <| roN)⟩⟩
        ·refine Q0.xR h fun y53 h => ?_
         refine cP h hR_polyglotref17_check (.cons q4 p1) fun v55 h => ?_
         apply iU h <;> intro h
         ·cases h; exact (.p _)
         ·show Exists _
          exact ⟨(n0, (IntKind.wrap .i64 (i42 + 1))), h, Nat.lt_succ_self _, (fun i => i), ⟨(rA <| rE rfl <| rE rfl <| rW <| rE rfl <| rX <| rX <| rX <| rX <| rX <| rX <| rX <| rX <| rW <| rA <| rN), (hE rfl <| hN), rfl, rfl, (roE rfl <| roN)⟩⟩
       ·apply iU h <;> intro h
        ·refine cP h V8 p1 fun v59 h => ?_
         apply iU h <;> intro h
         ·cases h; exact (.p _)
         ·cases h; exact (.p _)
        ·cases h; exact (.p _)
def Y7 : Nat → Q0 → Int → Option (Int)
 | 0 => fun _ _ => none
 | N + 1 => V0 (Y7 N) N
theorem Q0q {N} {v} {most} {r} (h : Y7 N v most = some r) : Zj Tryz.prog G1 68 [.agg (Q0.cells v), .int .i64 most] (.int .i64 r) := by
 induction N generalizing v most r with
 | zero => simp [Y7] at h
 | succ N ih => exact Q0b (fun h => ih h) h
def Xt (N : Nat) (v : Q0) (most : Int) : Option (Int) :=
 cond (Q8 .lss most 0)
 (some 2)
 (cond (Q8 .gtr most 32)
 (some 2)
 ((Y7 N v most).bind fun v3 =>
 some v3))
theorem Q0l {N} {v} {most} {r} (h : Xt N v most = some r) : Zj Tryz.prog G1 23 [.agg (Q0.cells v), .int .i64 most] (.int .i64 r) := by
 refine Q4 k23 ?_
 unfold Xt at h
 apply iU h <;> intro h
 ·cases h; exact (.p _)
 ·apply iU h <;> intro h
  ·cases h; exact (.p _)
  ·refine cP h Q0q (.cons q4 p1) fun v3 h => ?_
   cases h; exact (.p _)
def X0 (N : Nat) (v : Q0) (w : Q0) : Option (Bool) :=
 (Wy N).bind fun v1 =>
 cond (!v1)
 (some false)
 ((Zz N v).bind fun v4 =>
 cond (!v4)
 (some true)
 ((Zz N w).bind fun v7 =>
 cond (!v7)
 (some true)
 ((Zn N v).bind fun v10 =>
 (Zn N v10).bind fun v12 =>
 (Qp N v12 v10).bind fun v14 =>
 cond (!v14)
 (some false)
 ((Wk N v10).bind fun v17 =>
 cond (!v17)
 (some false)
 ((Wk N v).bind fun v20 =>
 (Qp N v10 v).bind fun v22 =>
 cond (!(v20 == v22))
 (some false)
 ((W5 N v 32).bind fun v25 =>
 (Xt N v 32).bind fun v27 =>
 cond (!((Q8 .eql v25.2 0) == (Q8 .eql v27 0)))
 (some false)
 (cond (Q8 .neq v25.2 0)
 (some (Q14 .eql v25.1 []))
 ((Qw N v25.1 32).bind fun v31 =>
 cond (Q8 .neq v31.2.2 0)
 (some false)
 (cond (Q8 .neq v31.2.1 (v25.1.length : Int))
 (some false)
 ((Qp N v31.1 v10).bind fun v35 =>
 cond (!v35)
 (some false)
 ((W5 N w 32).bind fun v38 =>
 cond (Q8 .neq v38.2 0)
 (some true)
 ((Zn N w).bind fun v41 =>
 (Qp N v10 v41).bind fun v43 =>
 some ((Q14 .eql v25.1 v38.1) == v43)))))))))))))
theorem J9 {N} {v} {w} {r} (h : X0 N v w = some r) : Zj Tryz.prog G1 4 [.agg (Q0.cells v), .agg (Q0.cells w)] (.bool r) := by
 refine Q4 k4 ?_
 unfold X0 at h
 refine cP h Q0e p0 fun v1 h => ?_
 apply iU h <;> intro h
 ·cases h; exact (.p _)
 ·refine cP h Vs (.cons q4 .nil) fun v4 h => ?_
  apply iU h <;> intro h
  ·cases h; exact (.p _)
  ·refine cP h Vs (.cons q4 .nil) fun v7 h => ?_
   apply iU h <;> intro h
   ·cases h; exact (.p _)
   ·refine cP h V1 (.cons q4 .nil) fun v10 h => ?_
    refine Z1 ?_
    refine cD h V1 (.cons q4 .nil) fun v12 h => ?_
    refine cD h Xe (.cons (.p _) (.cons q4 .nil)) fun v14 h => ?_
    apply iU h <;> intro h
    ·cases h; exact (.p _)
    ·refine cD h Jp (.cons q4 .nil) fun v17 h => ?_
     apply iU h <;> intro h
     ·cases h; exact (.p _)
     ·refine cD h Jp (.cons q4 .nil) fun v20 h => ?_
      refine cD h Xe (.cons q4 (.cons q4 .nil)) fun v22 h => ?_
      apply iU h <;> intro h
      ·cases h; exact (.p _)
      ·refine cP h Uc (.cons q4 p1) fun v25 h => ?_
       refine cP h Q0l (.cons q4 p1) fun v27 h => ?_
       apply iU h <;> intro h
       ·cases h; exact (.p _)
       ·apply iU h <;> intro h
        ·cases h; exact (.p _)
        ·refine cP h Q16 p2 fun v31 h => ?_
         apply iU h <;> intro h
         ·cases h; exact (.p _)
         ·apply iU h <;> intro h
          ·cases h; exact (.p _)
          ·refine cP h Xe (.cons q4 (.cons q4 .nil)) fun v35 h => ?_
           apply iU h <;> intro h
           ·cases h; exact (.p _)
           ·refine cP h Uc (.cons q4 p1) fun v38 h => ?_
            refine Z1 ?_
            apply iU h <;> intro h
            ·cases h; exact (.p _)
            ·refine cD h V1 (.cons q4 .nil) fun v41 h => ?_
             refine cD h Xe (.cons q4 p1) fun v43 h => ?_
             cases h; exact (.p _)
end
end
end Go.Av
