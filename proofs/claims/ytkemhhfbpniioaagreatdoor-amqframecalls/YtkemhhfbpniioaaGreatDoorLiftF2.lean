/- The law. Part of a proof of a given statement: for every input the law returns true and the arguments read as before; no condition beyond the given row. -/
import Derived.Test.YtkemhhfbpniioaaGreatDoorLiftF1
namespace Go.Av
noncomputable section
open Go.Proofs
set_option maxRecDepth 100000
set_option maxHeartbeats 4000000
attribute [local irreducible] Gc V2 Q9e Qau Q5 Q3q Qce
section
def J4 (rx1 : (List UInt8) → Int → Option (Q0 × Int × Int)) (ry1 : Int → (List UInt8) → Int → Option (Q0 × Int × Int)) (rz2 : Qg → (List UInt8) → Int → Option (Q0 × Int × Int)) (rv1 : Int → (List UInt8) → Int → Option (Q0 × Int × Int)) (_N : Nat) (s_0 : List UInt8) (most : Int) : Option (Q0 × Int × Int) :=
 cond (Q5 .lss most 0)
 (some ((⟨0, 0, [], []⟩ : Q0), 0, 2))
 (cond (Q5 .gtr most 32)
 (some ((⟨0, 0, [], []⟩ : Q0), 0, 2))
 (cond (Q3q .eql s_0 [])
 (some ((⟨0, 0, [], []⟩ : Q0), 0, 3))
 ((idx s_0 0).bind fun b4 =>
 cond (Nat.ble 1 s_0.length && Nat.ble s_0.length s_0.length) ((ry1 (IntKind.wrap .i64 (b4.toNat : Int)) ((s_0.take s_0.length).drop 1) most).bind fun v7 =>
 cond (Q5 .neq v7.2.2 0)
 (some ((⟨0, 0, [], []⟩ : Q0), 0, v7.2.2))
 (some (v7.1, (IntKind.wrap .i64 (v7.2.1 + 1)), 0))) none)))
theorem Q61 {rx1 : (List UInt8) → Int → Option (Q0 × Int × Int)} {ry1 : Int → (List UInt8) → Int → Option (Q0 × Int × Int)} {rz2 : Qg → (List UInt8) → Int → Option (Q0 × Int × Int)} {rv1 : Int → (List UInt8) → Int → Option (Q0 × Int × Int)} (hx3 : ∀ {s_0} {most} {r}, rx1 s_0 most = some r → Z0 Tryz.prog G1 18 [.str s_0, .int .i64 most] (.tuple [.agg (Q0.cells r.1), .int .i64 r.2.1, .int .i64 r.2.2])) (hy3 : ∀ {code} {s_1} {most} {r}, ry1 code s_1 most = some r → Z0 Tryz.prog G1 65 [.int .i64 code, .str s_1, .int .i64 most] (.tuple [.agg (Q0.cells r.1), .int .i64 r.2.1, .int .i64 r.2.2])) (hz4 : ∀ {c} {s_1} {most} {r}, rz2 c s_1 most = some r → Z0 Tryz.prog G1 98 [.agg (Qg.cells c), .str s_1, .int .i64 most] (.tuple [.agg (Q0.cells r.1), .int .i64 r.2.1, .int .i64 r.2.2])) (hv3 : ∀ {code} {s_1} {most} {r}, rv1 code s_1 most = some r → Z0 Tryz.prog G1 120 [.int .i64 code, .str s_1, .int .i64 most] (.tuple [.agg (Q0.cells r.1), .int .i64 r.2.1, .int .i64 r.2.2])) {N} {s_0} {most} {r} (h : J4 rx1 ry1 rz2 rv1 N s_0 most = some r) : Z0 Tryz.prog G1 18 [.str s_0, .int .i64 most] (.tuple [.agg (Q0.cells r.1), .int .i64 r.2.1, .int .i64 r.2.2]) := by
 refine Q3 k18 ?_
 unfold J4 at h
 apply iU h <;> intro h
 ·obtain rfl := Q8 h; exact (Frz.tuple' (.cons q4n p2))
 ·apply iU h <;> intro h
  ·obtain rfl := Q8 h; exact (Frz.tuple' (.cons q4n p2))
  ·apply iU h <;> intro h
   ·obtain rfl := Q8 h; exact (Frz.tuple' (.cons q4n p2))
   ·refine Qe ?_
    refine xB h fun b4 h => ?_
    refine kU h fun h => ?_
    refine cD h hy3 p3 fun v7 h => ?_
    apply iU h <;> intro h
    ·obtain rfl := Q8 h; exact (Frz.tuple' (.cons q4n p2))
    ·obtain rfl := Q8 h; exact (Frz.tuple' (.cons q4 p2))
def W8 (rx1 : (List UInt8) → Int → Option (Q0 × Int × Int)) (ry1 : Int → (List UInt8) → Int → Option (Q0 × Int × Int)) (rz2 : Qg → (List UInt8) → Int → Option (Q0 × Int × Int)) (rv1 : Int → (List UInt8) → Int → Option (Q0 × Int × Int)) (N : Nat) (code : Int) (s_1 : List UInt8) (most : Int) : Option (Q0 × Int × Int) :=
 cond (Q5 .lss most 0)
 (some ((⟨0, 0, [], []⟩ : Q0), 0, 2))
 (cond (Q5 .gtr most 32)
 (some ((⟨0, 0, [], []⟩ : Q0), 0, 2))
 ((Zn N code).bind fun v3 =>
 cond (!v3.2)
 (some ((⟨0, 0, [], []⟩ : Q0), 0, 8))
 (cond (!v3.1.Items)
 ((Js N code s_1).bind fun v7 =>
 some (v7.1, v7.2.1, v7.2.2))
 (cond (Q5 .eql most 0)
 (some ((⟨0, 0, [], []⟩ : Q0), 0, 14))
 (cond v3.1.Sized
 ((rz2 v3.1 s_1 most).bind fun v11 =>
 some (v11.1, v11.2.1, v11.2.2))
 (cond (Q5 .eql v3.1.Kind 22)
 (some ((⟨22, 0, [], []⟩ : Q0), 0, 0))
 ((rx1 s_1 (IntKind.wrap .i64 (most - 1))).bind fun v14 =>
 cond (Q5 .neq v14.2.2 0)
 (some ((⟨0, 0, [], []⟩ : Q0), 0, v14.2.2))
 (cond (decide (0 ≤ v14.2.1)) (cond (Nat.ble v14.2.1.toNat s_1.length && Nat.ble s_1.length s_1.length) ((rx1 ((s_1.take s_1.length).drop v14.2.1.toNat) (IntKind.wrap .i64 (most - 1))).bind fun v19 =>
 cond (Q5 .neq v19.2.2 0)
 (some ((⟨0, 0, [], []⟩ : Q0), 0, v19.2.2))
 (some ((⟨25, 0, [], [v14.1, v19.1]⟩ : Q0), (IntKind.wrap .i64 (v14.2.1 + v19.2.1)), 0))) none) none))))))))
theorem Q6c {rx1 : (List UInt8) → Int → Option (Q0 × Int × Int)} {ry1 : Int → (List UInt8) → Int → Option (Q0 × Int × Int)} {rz2 : Qg → (List UInt8) → Int → Option (Q0 × Int × Int)} {rv1 : Int → (List UInt8) → Int → Option (Q0 × Int × Int)} (hx3 : ∀ {s_0} {most} {r}, rx1 s_0 most = some r → Z0 Tryz.prog G1 18 [.str s_0, .int .i64 most] (.tuple [.agg (Q0.cells r.1), .int .i64 r.2.1, .int .i64 r.2.2])) (hy3 : ∀ {code} {s_1} {most} {r}, ry1 code s_1 most = some r → Z0 Tryz.prog G1 65 [.int .i64 code, .str s_1, .int .i64 most] (.tuple [.agg (Q0.cells r.1), .int .i64 r.2.1, .int .i64 r.2.2])) (hz4 : ∀ {c} {s_1} {most} {r}, rz2 c s_1 most = some r → Z0 Tryz.prog G1 98 [.agg (Qg.cells c), .str s_1, .int .i64 most] (.tuple [.agg (Q0.cells r.1), .int .i64 r.2.1, .int .i64 r.2.2])) (hv3 : ∀ {code} {s_1} {most} {r}, rv1 code s_1 most = some r → Z0 Tryz.prog G1 120 [.int .i64 code, .str s_1, .int .i64 most] (.tuple [.agg (Q0.cells r.1), .int .i64 r.2.1, .int .i64 r.2.2])) {N} {code} {s_1} {most} {r} (h : W8 rx1 ry1 rz2 rv1 N code s_1 most = some r) : Z0 Tryz.prog G1 65 [.int .i64 code, .str s_1, .int .i64 most] (.tuple [.agg (Q0.cells r.1), .int .i64 r.2.1, .int .i64 r.2.2]) := by
 refine Q3 k65 ?_
 unfold W8 at h
 apply iU h <;> intro h
 ·obtain rfl := Q8 h; exact (Frz.tuple' (.cons q4n p2))
 ·apply iU h <;> intro h
  ·obtain rfl := Q8 h; exact (Frz.tuple' (.cons q4n p2))
  ·refine cP h Yl p1 fun v3 h => ?_
   apply iU h <;> intro h
   ·obtain rfl := Q8 h; exact (Frz.tuple' (.cons q4n p2))
   ·apply iU h <;> intro h
    ·refine cP h Q6z p2 fun v7 h => ?_
     obtain rfl := Q8 h; exact (Frz.tuple' (.cons q4 p2))
    ·apply iU h <;> intro h
     ·obtain rfl := Q8 h; exact (Frz.tuple' (.cons q4n p2))
     ·apply iU h <;> intro h
      ·refine cP h hz4 (.cons (Frz.agg' p5) p2) fun v11 h => ?_
       obtain rfl := Q8 h; exact (Frz.tuple' (.cons q4 p2))
      ·apply iU h <;> intro h
       ·obtain rfl := Q8 h; exact (Frz.tuple' (.cons q4n p2))
       ·refine cP h hx3 p2 fun v14 h => ?_
        apply iU h <;> intro h
        ·obtain rfl := Q8 h; exact (Frz.tuple' (.cons q4n p2))
        ·refine kU h fun h => ?_
         refine kU h fun h => ?_
         refine cP h hx3 p2 fun v19 h => ?_
         apply iU h <;> intro h
         ·obtain rfl := Q8 h; exact (Frz.tuple' (.cons q4n p2))
         ·obtain rfl := Q8 h; exact (Frz.tuple' (.cons (Frz.agg' (.cons (.p _) (.cons (.p _) (.cons (.p _) (.cons (Q0.frz_own (l := [v14.1, v19.1]) rfl trivial (by simp)) .nil))))) p2))
def Ul (rv1 : Int → (List UInt8) → Int → Option (Q0 × Int × Int)) (N : Nat) (c : Qg) (most : Int) (v4 : Int) (v11 : Int) (b19 : UInt8) (v21 : Qg × Bool) : Nat → (List UInt8) → Int → (List Q0) → Option (Q0 × Int × Int)
 | 0, _, _, _ => none
 | n + 1, body44, i45, l46 =>
  cond (Q5 .lss i45 v11)
  ((rv1 (IntKind.wrap .i64 (b19.toNat : Int)) body44 (IntKind.wrap .i64 (most - 1))).bind fun v48 =>
  cond (Q5 .eql v48.2.2 3)
  (some ((⟨0, 0, [], []⟩ : Q0), 0, 5))
  (cond (Q5 .neq v48.2.2 0)
  (some ((⟨0, 0, [], []⟩ : Q0), 0, v48.2.2))
  (cond (Nat.ble ((l46.length + 1 + 4096) * 56) 17592186044416) (cond (decide (0 ≤ v48.2.1)) (cond (Nat.ble v48.2.1.toNat body44.length && Nat.ble body44.length body44.length) (Ul rv1 N c most v4 v11 b19 v21 n ((body44.take body44.length).drop v48.2.1.toNat) (IntKind.wrap .u64 (i45 + 1)) (l46 ++ [v48.1])) none) none) none)))
  (cond (Q3q .neq body44 [])
  (some ((⟨0, 0, [], []⟩ : Q0), 0, 5))
  ((Ym N l46).bind fun v56 =>
  cond v56
  (some ((⟨0, 0, [], []⟩ : Q0), 0, 16))
  (some ((⟨c.Kind, (IntKind.wrap .u64 v21.1.Kind), [], l46⟩ : Q0), (IntKind.wrap .i64 (c.Width + (IntKind.wrap .i64 v4))), 0))))
def V8 (rv1 : Int → (List UInt8) → Int → Option (Q0 × Int × Int)) (N : Nat) (c : Qg) (most : Int) (v4 : Int) (v11 : Int) : Nat → (List UInt8) → Int → (List Q0) → Option (Q0 × Int × Int)
 | 0, _, _, _ => none
 | n + 1, body77, i78, l79 =>
  cond (Q5 .lss i78 v11)
  ((rv1 (-1) body77 (IntKind.wrap .i64 (most - 1))).bind fun v81 =>
  cond (Q5 .eql v81.2.2 3)
  (some ((⟨0, 0, [], []⟩ : Q0), 0, 5))
  (cond (Q5 .neq v81.2.2 0)
  (some ((⟨0, 0, [], []⟩ : Q0), 0, v81.2.2))
  (cond (Nat.ble ((l79.length + 1 + 4096) * 56) 17592186044416) (cond (decide (0 ≤ v81.2.1)) (cond (Nat.ble v81.2.1.toNat body77.length && Nat.ble body77.length body77.length) (V8 rv1 N c most v4 v11 n ((body77.take body77.length).drop v81.2.1.toNat) (IntKind.wrap .u64 (i78 + 1)) (l79 ++ [v81.1])) none) none) none)))
  (cond (Q3q .neq body77 [])
  (some ((⟨0, 0, [], []⟩ : Q0), 0, 5))
  ((Ym N l79).bind fun v89 =>
  cond v89
  (some ((⟨0, 0, [], []⟩ : Q0), 0, 16))
  (some ((⟨c.Kind, 0, [], l79⟩ : Q0), (IntKind.wrap .i64 (c.Width + (IntKind.wrap .i64 v4))), 0))))
def Vc (rv1 : Int → (List UInt8) → Int → Option (Q0 × Int × Int)) (N : Nat) (c : Qg) (most : Int) (v4 : Int) (v11 : Int) (b94 : UInt8) (v96 : Qg × Bool) : Nat → (List UInt8) → Int → (List Q0) → Option (Q0 × Int × Int)
 | 0, _, _, _ => none
 | n + 1, body119, i120, l121 =>
  cond (Q5 .lss i120 v11)
  ((rv1 (IntKind.wrap .i64 (b94.toNat : Int)) body119 (IntKind.wrap .i64 (most - 1))).bind fun v123 =>
  cond (Q5 .eql v123.2.2 3)
  (some ((⟨0, 0, [], []⟩ : Q0), 0, 5))
  (cond (Q5 .neq v123.2.2 0)
  (some ((⟨0, 0, [], []⟩ : Q0), 0, v123.2.2))
  (cond (Nat.ble ((l121.length + 1 + 4096) * 56) 17592186044416) (cond (decide (0 ≤ v123.2.1)) (cond (Nat.ble v123.2.1.toNat body119.length && Nat.ble body119.length body119.length) (Vc rv1 N c most v4 v11 b94 v96 n ((body119.take body119.length).drop v123.2.1.toNat) (IntKind.wrap .u64 (i120 + 1)) (l121 ++ [v123.1])) none) none) none)))
  (cond (Q3q .neq body119 [])
  (some ((⟨0, 0, [], []⟩ : Q0), 0, 5))
  (some ((⟨c.Kind, (IntKind.wrap .u64 v96.1.Kind), [], l121⟩ : Q0), (IntKind.wrap .i64 (c.Width + (IntKind.wrap .i64 v4))), 0)))
def Va (rv1 : Int → (List UInt8) → Int → Option (Q0 × Int × Int)) (N : Nat) (c : Qg) (most : Int) (v4 : Int) (v11 : Int) : Nat → (List UInt8) → Int → (List Q0) → Option (Q0 × Int × Int)
 | 0, _, _, _ => none
 | n + 1, body149, i150, l151 =>
  cond (Q5 .lss i150 v11)
  ((rv1 (-1) body149 (IntKind.wrap .i64 (most - 1))).bind fun v153 =>
  cond (Q5 .eql v153.2.2 3)
  (some ((⟨0, 0, [], []⟩ : Q0), 0, 5))
  (cond (Q5 .neq v153.2.2 0)
  (some ((⟨0, 0, [], []⟩ : Q0), 0, v153.2.2))
  (cond (Nat.ble ((l151.length + 1 + 4096) * 56) 17592186044416) (cond (decide (0 ≤ v153.2.1)) (cond (Nat.ble v153.2.1.toNat body149.length && Nat.ble body149.length body149.length) (Va rv1 N c most v4 v11 n ((body149.take body149.length).drop v153.2.1.toNat) (IntKind.wrap .u64 (i150 + 1)) (l151 ++ [v153.1])) none) none) none)))
  (cond (Q3q .neq body149 [])
  (some ((⟨0, 0, [], []⟩ : Q0), 0, 5))
  (some ((⟨c.Kind, 0, [], l151⟩ : Q0), (IntKind.wrap .i64 (c.Width + (IntKind.wrap .i64 v4))), 0)))
def V9 (rx1 : (List UInt8) → Int → Option (Q0 × Int × Int)) (ry1 : Int → (List UInt8) → Int → Option (Q0 × Int × Int)) (rz2 : Qg → (List UInt8) → Int → Option (Q0 × Int × Int)) (rv1 : Int → (List UInt8) → Int → Option (Q0 × Int × Int)) (N : Nat) (c : Qg) (s_1 : List UInt8) (most : Int) : Option (Q0 × Int × Int) :=
 cond (Q5 .lss (s_1.length : Int) c.Width)
 (some ((⟨0, 0, [], []⟩ : Q0), 0, 3))
 (cond (decide (0 ≤ c.Width)) (cond (Nat.ble 0 c.Width.toNat && Nat.ble c.Width.toNat s_1.length) ((Zd N ((s_1.take c.Width.toNat).drop 0)).bind fun v4 =>
 cond (Q5 .gtr v4 (IntKind.wrap .u64 (IntKind.wrap .i64 ((s_1.length : Int) - c.Width))))
 (some ((⟨0, 0, [], []⟩ : Q0), 0, 3))
 (cond (decide (0 ≤ (IntKind.wrap .i64 (c.Width + (IntKind.wrap .i64 v4))))) (cond (Nat.ble c.Width.toNat ((IntKind.wrap .i64 (c.Width + (IntKind.wrap .i64 v4))).toNat) && Nat.ble ((IntKind.wrap .i64 (c.Width + (IntKind.wrap .i64 v4))).toNat) s_1.length) (cond (Q5 .lss (((s_1.take ((IntKind.wrap .i64 (c.Width + (IntKind.wrap .i64 v4))).toNat)).drop c.Width.toNat).length : Int) c.Width)
 (some ((⟨0, 0, [], []⟩ : Q0), 0, 5))
 (cond (Nat.ble 0 c.Width.toNat && Nat.ble c.Width.toNat ((s_1.take ((IntKind.wrap .i64 (c.Width + (IntKind.wrap .i64 v4))).toNat)).drop c.Width.toNat).length) ((Zd N ((((s_1.take ((IntKind.wrap .i64 (c.Width + (IntKind.wrap .i64 v4))).toNat)).drop c.Width.toNat).take c.Width.toNat).drop 0)).bind fun v11 =>
 cond (Nat.ble c.Width.toNat (((s_1.take ((IntKind.wrap .i64 (c.Width + (IntKind.wrap .i64 v4))).toNat)).drop c.Width.toNat).length) && Nat.ble (((s_1.take ((IntKind.wrap .i64 (c.Width + (IntKind.wrap .i64 v4))).toNat)).drop c.Width.toNat).length) ((s_1.take ((IntKind.wrap .i64 (c.Width + (IntKind.wrap .i64 v4))).toNat)).drop c.Width.toNat).length) (cond (Q5 .gtr v11 1000)
 (some ((⟨0, 0, [], []⟩ : Q0), 0, 4))
 (cond (Q5 .eql c.Kind 23)
 (cond (Q5 .neq ((v11 : Int).tmod 2) 0)
 (some ((⟨0, 0, [], []⟩ : Q0), 0, 5))
 (cond (Q5 .eql c.Kind 24)
 (cond (Q3q .eql ((((s_1.take ((IntKind.wrap .i64 (c.Width + (IntKind.wrap .i64 v4))).toNat)).drop c.Width.toNat).take (((s_1.take ((IntKind.wrap .i64 (c.Width + (IntKind.wrap .i64 v4))).toNat)).drop c.Width.toNat).length)).drop c.Width.toNat) [])
 (some ((⟨0, 0, [], []⟩ : Q0), 0, 5))
 ((idx ((((s_1.take ((IntKind.wrap .i64 (c.Width + (IntKind.wrap .i64 v4))).toNat)).drop c.Width.toNat).take (((s_1.take ((IntKind.wrap .i64 (c.Width + (IntKind.wrap .i64 v4))).toNat)).drop c.Width.toNat).length)).drop c.Width.toNat) 0).bind fun b19 =>
 (Zn N (IntKind.wrap .i64 (b19.toNat : Int))).bind fun v21 =>
 cond (!v21.2)
 (some ((⟨0, 0, [], []⟩ : Q0), 0, 8))
 (cond (Q5 .eql (IntKind.wrap .i64 (b19.toNat : Int)) 0)
 (some ((⟨0, 0, [], []⟩ : Q0), 0, 8))
 (cond (Nat.ble 1 (((((s_1.take ((IntKind.wrap .i64 (c.Width + (IntKind.wrap .i64 v4))).toNat)).drop c.Width.toNat).take (((s_1.take ((IntKind.wrap .i64 (c.Width + (IntKind.wrap .i64 v4))).toNat)).drop c.Width.toNat).length)).drop c.Width.toNat).length) && Nat.ble (((((s_1.take ((IntKind.wrap .i64 (c.Width + (IntKind.wrap .i64 v4))).toNat)).drop c.Width.toNat).take (((s_1.take ((IntKind.wrap .i64 (c.Width + (IntKind.wrap .i64 v4))).toNat)).drop c.Width.toNat).length)).drop c.Width.toNat).length) ((((s_1.take ((IntKind.wrap .i64 (c.Width + (IntKind.wrap .i64 v4))).toNat)).drop c.Width.toNat).take (((s_1.take ((IntKind.wrap .i64 (c.Width + (IntKind.wrap .i64 v4))).toNat)).drop c.Width.toNat).length)).drop c.Width.toNat).length) (Ul rv1 N c most v4 v11 b19 v21 N ((((((s_1.take ((IntKind.wrap .i64 (c.Width + (IntKind.wrap .i64 v4))).toNat)).drop c.Width.toNat).take (((s_1.take ((IntKind.wrap .i64 (c.Width + (IntKind.wrap .i64 v4))).toNat)).drop c.Width.toNat).length)).drop c.Width.toNat).take (((((s_1.take ((IntKind.wrap .i64 (c.Width + (IntKind.wrap .i64 v4))).toNat)).drop c.Width.toNat).take (((s_1.take ((IntKind.wrap .i64 (c.Width + (IntKind.wrap .i64 v4))).toNat)).drop c.Width.toNat).length)).drop c.Width.toNat).length)).drop 1) 0 []) none))))
 (V8 rv1 N c most v4 v11 N ((((s_1.take ((IntKind.wrap .i64 (c.Width + (IntKind.wrap .i64 v4))).toNat)).drop c.Width.toNat).take (((s_1.take ((IntKind.wrap .i64 (c.Width + (IntKind.wrap .i64 v4))).toNat)).drop c.Width.toNat).length)).drop c.Width.toNat) 0 [])))
 (cond (Q5 .eql c.Kind 24)
 (cond (Q3q .eql ((((s_1.take ((IntKind.wrap .i64 (c.Width + (IntKind.wrap .i64 v4))).toNat)).drop c.Width.toNat).take (((s_1.take ((IntKind.wrap .i64 (c.Width + (IntKind.wrap .i64 v4))).toNat)).drop c.Width.toNat).length)).drop c.Width.toNat) [])
 (some ((⟨0, 0, [], []⟩ : Q0), 0, 5))
 ((idx ((((s_1.take ((IntKind.wrap .i64 (c.Width + (IntKind.wrap .i64 v4))).toNat)).drop c.Width.toNat).take (((s_1.take ((IntKind.wrap .i64 (c.Width + (IntKind.wrap .i64 v4))).toNat)).drop c.Width.toNat).length)).drop c.Width.toNat) 0).bind fun b94 =>
 (Zn N (IntKind.wrap .i64 (b94.toNat : Int))).bind fun v96 =>
 cond (!v96.2)
 (some ((⟨0, 0, [], []⟩ : Q0), 0, 8))
 (cond (Q5 .eql (IntKind.wrap .i64 (b94.toNat : Int)) 0)
 (some ((⟨0, 0, [], []⟩ : Q0), 0, 8))
 (cond (Nat.ble 1 (((((s_1.take ((IntKind.wrap .i64 (c.Width + (IntKind.wrap .i64 v4))).toNat)).drop c.Width.toNat).take (((s_1.take ((IntKind.wrap .i64 (c.Width + (IntKind.wrap .i64 v4))).toNat)).drop c.Width.toNat).length)).drop c.Width.toNat).length) && Nat.ble (((((s_1.take ((IntKind.wrap .i64 (c.Width + (IntKind.wrap .i64 v4))).toNat)).drop c.Width.toNat).take (((s_1.take ((IntKind.wrap .i64 (c.Width + (IntKind.wrap .i64 v4))).toNat)).drop c.Width.toNat).length)).drop c.Width.toNat).length) ((((s_1.take ((IntKind.wrap .i64 (c.Width + (IntKind.wrap .i64 v4))).toNat)).drop c.Width.toNat).take (((s_1.take ((IntKind.wrap .i64 (c.Width + (IntKind.wrap .i64 v4))).toNat)).drop c.Width.toNat).length)).drop c.Width.toNat).length) (Vc rv1 N c most v4 v11 b94 v96 N ((((((s_1.take ((IntKind.wrap .i64 (c.Width + (IntKind.wrap .i64 v4))).toNat)).drop c.Width.toNat).take (((s_1.take ((IntKind.wrap .i64 (c.Width + (IntKind.wrap .i64 v4))).toNat)).drop c.Width.toNat).length)).drop c.Width.toNat).take (((((s_1.take ((IntKind.wrap .i64 (c.Width + (IntKind.wrap .i64 v4))).toNat)).drop c.Width.toNat).take (((s_1.take ((IntKind.wrap .i64 (c.Width + (IntKind.wrap .i64 v4))).toNat)).drop c.Width.toNat).length)).drop c.Width.toNat).length)).drop 1) 0 []) none))))
 (Va rv1 N c most v4 v11 N ((((s_1.take ((IntKind.wrap .i64 (c.Width + (IntKind.wrap .i64 v4))).toNat)).drop c.Width.toNat).take (((s_1.take ((IntKind.wrap .i64 (c.Width + (IntKind.wrap .i64 v4))).toNat)).drop c.Width.toNat).length)).drop c.Width.toNat) 0 [])))) none) none)) none) none)) none) none)
theorem Q5g {rx1 : (List UInt8) → Int → Option (Q0 × Int × Int)} {ry1 : Int → (List UInt8) → Int → Option (Q0 × Int × Int)} {rz2 : Qg → (List UInt8) → Int → Option (Q0 × Int × Int)} {rv1 : Int → (List UInt8) → Int → Option (Q0 × Int × Int)} (hx3 : ∀ {s_0} {most} {r}, rx1 s_0 most = some r → Z0 Tryz.prog G1 18 [.str s_0, .int .i64 most] (.tuple [.agg (Q0.cells r.1), .int .i64 r.2.1, .int .i64 r.2.2])) (hy3 : ∀ {code} {s_1} {most} {r}, ry1 code s_1 most = some r → Z0 Tryz.prog G1 65 [.int .i64 code, .str s_1, .int .i64 most] (.tuple [.agg (Q0.cells r.1), .int .i64 r.2.1, .int .i64 r.2.2])) (hz4 : ∀ {c} {s_1} {most} {r}, rz2 c s_1 most = some r → Z0 Tryz.prog G1 98 [.agg (Qg.cells c), .str s_1, .int .i64 most] (.tuple [.agg (Q0.cells r.1), .int .i64 r.2.1, .int .i64 r.2.2])) (hv3 : ∀ {code} {s_1} {most} {r}, rv1 code s_1 most = some r → Z0 Tryz.prog G1 120 [.int .i64 code, .str s_1, .int .i64 most] (.tuple [.agg (Q0.cells r.1), .int .i64 r.2.1, .int .i64 r.2.2])) {N} {c} {s_1} {most} {r} (h : V9 rx1 ry1 rz2 rv1 N c s_1 most = some r) : Z0 Tryz.prog G1 98 [.agg (Qg.cells c), .str s_1, .int .i64 most] (.tuple [.agg (Q0.cells r.1), .int .i64 r.2.1, .int .i64 r.2.2]) := by
 refine Q3 k98 ?_
 unfold V9 at h
 apply iU h <;> intro h
 ·obtain rfl := Q8 h; exact (Frz.tuple' (.cons q4n p2))
 ·obtain ⟨hk2, h⟩ := Q38 h
  refine Q2a hk2 ?_
  refine kU h fun h => ?_
  refine cP h Yv p1 fun v4 h => ?_
  apply iU h <;> intro h
  ·obtain rfl := Q8 h; exact (Frz.tuple' (.cons q4n p2))
  ·refine Q2a hk2 ?_
   refine kU h fun h => ?_
   refine kU h fun h => ?_
   apply iU h <;> intro h
   ·obtain rfl := Q8 h; exact (Frz.tuple' (.cons q4n p2))
   ·refine Q2a hk2 ?_
    refine kU h fun h => ?_
    refine cP h Yv p1 fun v11 h => ?_
    refine Q2a hk2 ?_
    refine kU h fun h => ?_
    apply iU h <;> intro h
    ·obtain rfl := Q8 h; exact (Frz.tuple' (.cons q4n p2))
    ·refine ifO h (fun hc15 h => ?_) (fun hc15 h => ?_)
     ·apply iU h <;> intro h
      ·obtain rfl := Q8 h; exact (Frz.tuple' (.cons q4n p2))
      ·refine ifO h (fun hc17 h => ?_) (fun hc17 h => ?_)
       ·apply iU h <;> intro h
        ·obtain rfl := Q8 h; exact (Frz.tuple' (.cons q4n p2))
        ·refine ifT hc17 ?_
         refine xB h fun b19 h => ?_
         refine cP h Yl p1 fun v21 h => ?_
         apply iU h <;> intro h
         ·obtain rfl := Q8 h; exact (Frz.tuple' (.cons q4n p2))
         ·apply iU h <;> intro h
          ·obtain rfl := Q8 h; exact (Frz.tuple' (.cons q4n p2))
          ·refine Qe ?_
           refine kU h fun h => ?_
           refine lpC (τ := (List UInt8) × Int × (List Q0)) (fun ⟨body44, i45, _⟩ => (.any :: .any :: iI most :: .ptr 0 0 :: .any :: .any :: .ptr 1 0 :: a4 (.p (.int .i64 (IntKind.wrap .i64 (c.Width + (IntKind.wrap .i64 v4)))) :: iS body44 :: iW v11 :: .ptr 2 0 :: iI (IntKind.wrap .i64 (b19.toNat : Int)) :: .any :: .any :: iW i45 :: a16 (a16 (a16 (a16 (a16 (a16 (a16 (a16 (a8 ([])))))))))) : List AV)) (fun ⟨_, _, l46⟩ => (.cells (iI c.Code :: iI c.Kind :: iI c.Width :: .p (.bool c.Sized) :: .p (.bool c.Items) :: []) :: .cells (iI 0 :: iW 0 :: iS [] :: .p .nilSlice :: []) :: .cells (iI c.Kind :: iW (IntKind.wrap .u64 v21.1.Kind) :: iS [] :: .slice 4 4 0 l46.length :: []) :: .cells (iI v21.1.Code :: iI v21.1.Kind :: iI v21.1.Width :: .p (.bool v21.1.Sized) :: .p (.bool v21.1.Items) :: []) :: .cells (Xj Q0.cells l46) :: [] : List AObj)) (fun n0 ⟨body44, i45, l46⟩ => Ul rv1 N c most v4 v11 b19 v21 n0 body44 i45 l46) (((((((s_1.take ((IntKind.wrap .i64 (c.Width + (IntKind.wrap .i64 v4))).toNat)).drop c.Width.toNat).take (((s_1.take ((IntKind.wrap .i64 (c.Width + (IntKind.wrap .i64 v4))).toNat)).drop c.Width.toNat).length)).drop c.Width.toNat).take (((((s_1.take ((IntKind.wrap .i64 (c.Width + (IntKind.wrap .i64 v4))).toNat)).drop c.Width.toNat).take (((s_1.take ((IntKind.wrap .i64 (c.Width + (IntKind.wrap .i64 v4))).toNat)).drop c.Width.toNat).length)).drop c.Width.toNat).length)).drop 1), 0, []) h (fun i => i) ⟨(rW <| rE rfl <| rE rfl <| rW <| rE rfl <| rV <| rE rfl <| rE rfl <| rE rfl <| rE rfl <| rE rfl <| rW <| rE rfl <| rX <| rX <| rX <| rX <| rX <| rX <| rX <| rX <| rX <| rX <| rX <| rX <| rX <| rX <| rX <| rX <| rX <| rN), (hE rfl <| hE rfl <| hC rfl (rE rfl <| rE rfl <| rE rfl <| rS <| rN) <| hE rfl <| hV lb <| hN), rfl, rfl, (roE rfl <| roE rfl <| roE rfl <| roE rfl <| roE (Q9 _ _ _) <| roN)⟩ fun n0 ⟨body44, i45, l46⟩ h => ?_
           simp only [Ul] at h
           apply iU h <;> intro h
           ·refine cP h hv3 p3 fun v48 h => ?_
            apply iU h <;> intro h
            ·refine ifT (by unfold Q5; decide) ?_
             obtain rfl := Q8 h; exact (Frz.tuple' (.cons q4n p2))
            ·apply iU h <;> intro h
             ·obtain rfl := Q8 h; exact (Frz.tuple' (.cons q4n p2))
             ·refine Qe ?_
              obtain ⟨hk52, h⟩ := Q38 h
              refine Q2a (X6 (c := Q0.cells) (e := 4) (fun _ => rfl) (by simp) hk52) ?_
              refine Vt (c := Q0.cells) [v48.1] rfl ?_
              refine kU h fun h => ?_
              refine kU h fun h => ?_
              show Exists _
              exact ⟨(n0, ((body44.take body44.length).drop v48.2.1.toNat), (IntKind.wrap .u64 (i45 + 1)), (l46 ++ [v48.1])), h, Nat.lt_succ_self _, (rho [0, 1, 2, 3, 7]), ⟨(rW <| rE rfl <| rE rfl <| rW <| rE rfl <| rV <| rE rfl <| rE rfl <| rE rfl <| rE rfl <| rE rfl <| rW <| rE rfl <| rX <| rX <| rX <| rX <| rX <| rX <| rX <| rX <| rX <| rX <| rX <| rX <| rX <| rX <| rX <| rX <| rX <| rN), (hE rfl <| hE rfl <| hC rfl (rE rfl <| rE rfl <| rE rfl <| rL (by simp) rfl <| rN) <| hE rfl <| hO rfl <| hN), rfl, rfl, (roE rfl <| roE rfl <| roE rfl <| roE rfl <| roE (Q9 _ _ _) <| roN)⟩⟩
           ·apply iU h <;> intro h
            ·obtain rfl := Q8 h; exact (Frz.tuple' (.cons q4n p2))
            ·refine ifT hc15 ?_
             refine cK h Gk (.cons (Q0.frz_own (l := l46) rfl trivial (by simp)) .nil) fun v56 h => ?_
             apply iU h <;> intro h
             ·obtain rfl := Q8 h; exact (Frz.tuple' (.cons q4n p2))
             ·obtain rfl := Q8 h; exact (Frz.tuple' (.cons (Frz.agg' (.cons (.p _) (.cons (.p _) (.cons (.p _) (.cons (Q0.frz_own (l := l46) rfl trivial (by simp)) .nil))))) p2))
       ·refine ifF hc17 ?_
        refine lpC (τ := (List UInt8) × Int × (List Q0)) (fun ⟨body77, i78, _⟩ => (.any :: .any :: iI most :: .ptr 0 0 :: .any :: .any :: .ptr 1 0 :: a4 (.p (.int .i64 (IntKind.wrap .i64 (c.Width + (IntKind.wrap .i64 v4)))) :: iS body77 :: iW v11 :: .ptr 2 0 :: iI (-1) :: .any :: .any :: iW i78 :: a16 (a16 (a16 (a16 (a16 (a16 (a16 (a16 (a8 ([])))))))))) : List AV)) (fun ⟨_, _, l79⟩ => (.cells (iI c.Code :: iI c.Kind :: iI c.Width :: .p (.bool c.Sized) :: .p (.bool c.Items) :: []) :: .cells (iI 0 :: iW 0 :: iS [] :: .p .nilSlice :: []) :: .cells (iI c.Kind :: iW 0 :: iS [] :: .slice 4 3 0 l79.length :: []) :: .cells (Xj Q0.cells l79) :: [] : List AObj)) (fun n1 ⟨body77, i78, l79⟩ => V8 rv1 N c most v4 v11 n1 body77 i78 l79) (((((s_1.take ((IntKind.wrap .i64 (c.Width + (IntKind.wrap .i64 v4))).toNat)).drop c.Width.toNat).take (((s_1.take ((IntKind.wrap .i64 (c.Width + (IntKind.wrap .i64 v4))).toNat)).drop c.Width.toNat).length)).drop c.Width.toNat), 0, []) h (fun i => i) ⟨(rW <| rE rfl <| rE rfl <| rW <| rE rfl <| rV <| rE rfl <| rE rfl <| rE rfl <| rE rfl <| rE rfl <| rW <| rE rfl <| rX <| rX <| rX <| rX <| rX <| rX <| rX <| rX <| rX <| rX <| rX <| rX <| rX <| rX <| rX <| rX <| rX <| rN), (hE rfl <| hE rfl <| hC rfl (rE rfl <| rE rfl <| rE rfl <| rS <| rN) <| hV lb <| hN), rfl, rfl, (roE rfl <| roE rfl <| roE rfl <| roE (Q9 _ _ _) <| roN)⟩ fun n1 ⟨body77, i78, l79⟩ h => ?_
        simp only [V8] at h
        apply iU h <;> intro h
        ·refine cP h hv3 p3 fun v81 h => ?_
         apply iU h <;> intro h
         ·refine ifT (by unfold Q5; decide) ?_
          obtain rfl := Q8 h; exact (Frz.tuple' (.cons q4n p2))
         ·apply iU h <;> intro h
          ·obtain rfl := Q8 h; exact (Frz.tuple' (.cons q4n p2))
          ·refine Qe ?_
           obtain ⟨hk85, h⟩ := Q38 h
           refine Q2a (X6 (c := Q0.cells) (e := 4) (fun _ => rfl) (by simp) hk85) ?_
           refine Vt (c := Q0.cells) [v81.1] rfl ?_
           refine kU h fun h => ?_
           refine kU h fun h => ?_
           show Exists _
           exact ⟨(n1, ((body77.take body77.length).drop v81.2.1.toNat), (IntKind.wrap .u64 (i78 + 1)), (l79 ++ [v81.1])), h, Nat.lt_succ_self _, (rho [0, 1, 2, 6]), ⟨(rW <| rE rfl <| rE rfl <| rW <| rE rfl <| rV <| rE rfl <| rE rfl <| rE rfl <| rE rfl <| rE rfl <| rW <| rE rfl <| rX <| rX <| rX <| rX <| rX <| rX <| rX <| rX <| rX <| rX <| rX <| rX <| rX <| rX <| rX <| rX <| rX <| rN), (hE rfl <| hE rfl <| hC rfl (rE rfl <| rE rfl <| rE rfl <| rL (by simp) rfl <| rN) <| hO rfl <| hN), rfl, rfl, (roE rfl <| roE rfl <| roE rfl <| roE (Q9 _ _ _) <| roN)⟩⟩
        ·apply iU h <;> intro h
         ·obtain rfl := Q8 h; exact (Frz.tuple' (.cons q4n p2))
         ·refine ifT hc15 ?_
          refine cK h Gk (.cons (Q0.frz_own (l := l79) rfl trivial (by simp)) .nil) fun v89 h => ?_
          apply iU h <;> intro h
          ·obtain rfl := Q8 h; exact (Frz.tuple' (.cons q4n p2))
          ·obtain rfl := Q8 h; exact (Frz.tuple' (.cons (Frz.agg' (.cons (.p _) (.cons (.p _) (.cons (.p _) (.cons (Q0.frz_own (l := l79) rfl trivial (by simp)) .nil))))) p2))
     ·refine ifO h (fun hc92 h => ?_) (fun hc92 h => ?_)
      ·apply iU h <;> intro h
       ·obtain rfl := Q8 h; exact (Frz.tuple' (.cons q4n p2))
       ·refine ifT hc92 ?_
        refine xB h fun b94 h => ?_
        refine cP h Yl p1 fun v96 h => ?_
        apply iU h <;> intro h
        ·obtain rfl := Q8 h; exact (Frz.tuple' (.cons q4n p2))
        ·apply iU h <;> intro h
         ·obtain rfl := Q8 h; exact (Frz.tuple' (.cons q4n p2))
         ·refine Qe ?_
          refine kU h fun h => ?_
          refine lpC (τ := (List UInt8) × Int × (List Q0)) (fun ⟨body119, i120, _⟩ => (.any :: .any :: iI most :: .ptr 0 0 :: .any :: .any :: .ptr 1 0 :: a4 (.p (.int .i64 (IntKind.wrap .i64 (c.Width + (IntKind.wrap .i64 v4)))) :: iS body119 :: iW v11 :: .ptr 2 0 :: iI (IntKind.wrap .i64 (b94.toNat : Int)) :: .any :: .any :: iW i120 :: a16 (a16 (a16 (a16 (a16 (a16 (a16 (a16 (a8 ([])))))))))) : List AV)) (fun ⟨_, _, l121⟩ => (.cells (iI c.Code :: iI c.Kind :: iI c.Width :: .p (.bool c.Sized) :: .p (.bool c.Items) :: []) :: .cells (iI 0 :: iW 0 :: iS [] :: .p .nilSlice :: []) :: .cells (iI c.Kind :: iW (IntKind.wrap .u64 v96.1.Kind) :: iS [] :: .slice 4 4 0 l121.length :: []) :: .cells (iI v96.1.Code :: iI v96.1.Kind :: iI v96.1.Width :: .p (.bool v96.1.Sized) :: .p (.bool v96.1.Items) :: []) :: .cells (Xj Q0.cells l121) :: [] : List AObj)) (fun n2 ⟨body119, i120, l121⟩ => Vc rv1 N c most v4 v11 b94 v96 n2 body119 i120 l121) (((((((s_1.take ((IntKind.wrap .i64 (c.Width + (IntKind.wrap .i64 v4))).toNat)).drop c.Width.toNat).take (((s_1.take ((IntKind.wrap .i64 (c.Width + (IntKind.wrap .i64 v4))).toNat)).drop c.Width.toNat).length)).drop c.Width.toNat).take (((((s_1.take ((IntKind.wrap .i64 (c.Width + (IntKind.wrap .i64 v4))).toNat)).drop c.Width.toNat).take (((s_1.take ((IntKind.wrap .i64 (c.Width + (IntKind.wrap .i64 v4))).toNat)).drop c.Width.toNat).length)).drop c.Width.toNat).length)).drop 1), 0, []) h (fun i => i) ⟨(rW <| rE rfl <| rE rfl <| rW <| rE rfl <| rV <| rE rfl <| rE rfl <| rE rfl <| rE rfl <| rE rfl <| rW <| rE rfl <| rX <| rX <| rX <| rX <| rX <| rX <| rX <| rX <| rX <| rX <| rX <| rX <| rX <| rX <| rX <| rX <| rX <| rN), (hE rfl <| hE rfl <| hC rfl (rE rfl <| rE rfl <| rE rfl <| rS <| rN) <| hE rfl <| hV lb <| hN), rfl, rfl, (roE rfl <| roE rfl <| roE rfl <| roE rfl <| roE (Q9 _ _ _) <| roN)⟩ fun n2 ⟨body119, i120, l121⟩ h => ?_
          simp only [Vc] at h
          apply iU h <;> intro h
          ·refine cP h hv3 p3 fun v123 h => ?_
           apply iU h <;> intro h
           ·refine ifT (by unfold Q5; decide) ?_
            obtain rfl := Q8 h; exact (Frz.tuple' (.cons q4n p2))
           ·apply iU h <;> intro h
            ·obtain rfl := Q8 h; exact (Frz.tuple' (.cons q4n p2))
            ·refine Qe ?_
             obtain ⟨hk127, h⟩ := Q38 h
             refine Q2a (X6 (c := Q0.cells) (e := 4) (fun _ => rfl) (by simp) hk127) ?_
             refine Vt (c := Q0.cells) [v123.1] rfl ?_
             refine kU h fun h => ?_
             refine kU h fun h => ?_
             show Exists _
             exact ⟨(n2, ((body119.take body119.length).drop v123.2.1.toNat), (IntKind.wrap .u64 (i120 + 1)), (l121 ++ [v123.1])), h, Nat.lt_succ_self _, (rho [0, 1, 2, 3, 7]), ⟨(rW <| rE rfl <| rE rfl <| rW <| rE rfl <| rV <| rE rfl <| rE rfl <| rE rfl <| rE rfl <| rE rfl <| rW <| rE rfl <| rX <| rX <| rX <| rX <| rX <| rX <| rX <| rX <| rX <| rX <| rX <| rX <| rX <| rX <| rX <| rX <| rX <| rN), (hE rfl <| hE rfl <| hC rfl (rE rfl <| rE rfl <| rE rfl <| rL (by simp) rfl <| rN) <| hE rfl <| hO rfl <| hN), rfl, rfl, (roE rfl <| roE rfl <| roE rfl <| roE rfl <| roE (Q9 _ _ _) <| roN)⟩⟩
          ·apply iU h <;> intro h
           ·obtain rfl := Q8 h; exact (Frz.tuple' (.cons q4n p2))
           ·refine ifF hc15 ?_
            obtain rfl := Q8 h; exact (Frz.tuple' (.cons (Frz.agg' (.cons (.p _) (.cons (.p _) (.cons (.p _) (.cons (Q0.frz_own (l := l121) rfl trivial (by simp)) .nil))))) p2))
      ·refine ifF hc92 ?_
       refine lpC (τ := (List UInt8) × Int × (List Q0)) (fun ⟨body149, i150, _⟩ => (.any :: .any :: iI most :: .ptr 0 0 :: .any :: .any :: .ptr 1 0 :: a4 (.p (.int .i64 (IntKind.wrap .i64 (c.Width + (IntKind.wrap .i64 v4)))) :: iS body149 :: iW v11 :: .ptr 2 0 :: iI (-1) :: .any :: .any :: iW i150 :: a16 (a16 (a16 (a16 (a16 (a16 (a16 (a16 (a8 ([])))))))))) : List AV)) (fun ⟨_, _, l151⟩ => (.cells (iI c.Code :: iI c.Kind :: iI c.Width :: .p (.bool c.Sized) :: .p (.bool c.Items) :: []) :: .cells (iI 0 :: iW 0 :: iS [] :: .p .nilSlice :: []) :: .cells (iI c.Kind :: iW 0 :: iS [] :: .slice 4 3 0 l151.length :: []) :: .cells (Xj Q0.cells l151) :: [] : List AObj)) (fun n3 ⟨body149, i150, l151⟩ => Va rv1 N c most v4 v11 n3 body149 i150 l151) (((((s_1.take ((IntKind.wrap .i64 (c.Width + (IntKind.wrap .i64 v4))).toNat)).drop c.Width.toNat).take (((s_1.take ((IntKind.wrap .i64 (c.Width + (IntKind.wrap .i64 v4))).toNat)).drop c.Width.toNat).length)).drop c.Width.toNat), 0, []) h (fun i => i) ⟨(rW <| rE rfl <| rE rfl <| rW <| rE rfl <| rV <| rE rfl <| rE rfl <| rE rfl <| rE rfl <| rE rfl <| rW <| rE rfl <| rX <| rX <| rX <| rX <| rX <| rX <| rX <| rX <| rX <| rX <| rX <| rX <| rX <| rX <| rX <| rX <| rX <| rN), (hE rfl <| hE rfl <| hC rfl (rE rfl <| rE rfl <| rE rfl <| rS <| rN) <| hV lb <| hN), rfl, rfl, (roE rfl <| roE rfl <| roE rfl <| roE (Q9 _ _ _) <| roN)⟩ fun n3 ⟨body149, i150, l151⟩ h => ?_
       simp only [Va] at h
       apply iU h <;> intro h
       ·refine cP h hv3 p3 fun v153 h => ?_
        apply iU h <;> intro h
        ·refine ifT (by unfold Q5; decide) ?_
         obtain rfl := Q8 h; exact (Frz.tuple' (.cons q4n p2))
        ·apply iU h <;> intro h
         ·obtain rfl := Q8 h; exact (Frz.tuple' (.cons q4n p2))
         ·refine Qe ?_
          obtain ⟨hk157, h⟩ := Q38 h
          refine Q2a (X6 (c := Q0.cells) (e := 4) (fun _ => rfl) (by simp) hk157) ?_
          refine Vt (c := Q0.cells) [v153.1] rfl ?_
          refine kU h fun h => ?_
          refine kU h fun h => ?_
          show Exists _
          exact ⟨(n3, ((body149.take body149.length).drop v153.2.1.toNat), (IntKind.wrap .u64 (i150 + 1)), (l151 ++ [v153.1])), h, Nat.lt_succ_self _, (rho [0, 1, 2, 6]), ⟨(rW <| rE rfl <| rE rfl <| rW <| rE rfl <| rV <| rE rfl <| rE rfl <| rE rfl <| rE rfl <| rE rfl <| rW <| rE rfl <| rX <| rX <| rX <| rX <| rX <| rX <| rX <| rX <| rX <| rX <| rX <| rX <| rX <| rX <| rX <| rX <| rX <| rN), (hE rfl <| hE rfl <| hC rfl (rE rfl <| rE rfl <| rE rfl <| rL (by simp) rfl <| rN) <| hO rfl <| hN), rfl, rfl, (roE rfl <| roE rfl <| roE rfl <| roE (Q9 _ _ _) <| roN)⟩⟩
       ·apply iU h <;> intro h
        ·obtain rfl := Q8 h; exact (Frz.tuple' (.cons q4n p2))
        ·refine ifF hc15 ?_
         obtain rfl := Q8 h; exact (Frz.tuple' (.cons (Frz.agg' (.cons (.p _) (.cons (.p _) (.cons (.p _) (.cons (Q0.frz_own (l := l151) rfl trivial (by simp)) .nil))))) p2))
def We (rx1 : (List UInt8) → Int → Option (Q0 × Int × Int)) (ry1 : Int → (List UInt8) → Int → Option (Q0 × Int × Int)) (rz2 : Qg → (List UInt8) → Int → Option (Q0 × Int × Int)) (rv1 : Int → (List UInt8) → Int → Option (Q0 × Int × Int)) (_N : Nat) (code : Int) (s_1 : List UInt8) (most : Int) : Option (Q0 × Int × Int) :=
 cond (Q5 .lss code 0)
 ((rx1 s_1 most).bind fun v2 =>
 some (v2.1, v2.2.1, v2.2.2))
 ((ry1 code s_1 most).bind fun v4 =>
 some (v4.1, v4.2.1, v4.2.2))
theorem Q5u {rx1 : (List UInt8) → Int → Option (Q0 × Int × Int)} {ry1 : Int → (List UInt8) → Int → Option (Q0 × Int × Int)} {rz2 : Qg → (List UInt8) → Int → Option (Q0 × Int × Int)} {rv1 : Int → (List UInt8) → Int → Option (Q0 × Int × Int)} (hx3 : ∀ {s_0} {most} {r}, rx1 s_0 most = some r → Z0 Tryz.prog G1 18 [.str s_0, .int .i64 most] (.tuple [.agg (Q0.cells r.1), .int .i64 r.2.1, .int .i64 r.2.2])) (hy3 : ∀ {code} {s_1} {most} {r}, ry1 code s_1 most = some r → Z0 Tryz.prog G1 65 [.int .i64 code, .str s_1, .int .i64 most] (.tuple [.agg (Q0.cells r.1), .int .i64 r.2.1, .int .i64 r.2.2])) (hz4 : ∀ {c} {s_1} {most} {r}, rz2 c s_1 most = some r → Z0 Tryz.prog G1 98 [.agg (Qg.cells c), .str s_1, .int .i64 most] (.tuple [.agg (Q0.cells r.1), .int .i64 r.2.1, .int .i64 r.2.2])) (hv3 : ∀ {code} {s_1} {most} {r}, rv1 code s_1 most = some r → Z0 Tryz.prog G1 120 [.int .i64 code, .str s_1, .int .i64 most] (.tuple [.agg (Q0.cells r.1), .int .i64 r.2.1, .int .i64 r.2.2])) {N} {code} {s_1} {most} {r} (h : We rx1 ry1 rz2 rv1 N code s_1 most = some r) : Z0 Tryz.prog G1 120 [.int .i64 code, .str s_1, .int .i64 most] (.tuple [.agg (Q0.cells r.1), .int .i64 r.2.1, .int .i64 r.2.2]) := by
 refine Q3 Z2l ?_
 unfold We at h
 apply iU h <;> intro h
 ·refine cP h hx3 p2 fun v2 h => ?_
  obtain rfl := Q8 h; exact (Frz.tuple' (.cons q4 p2))
 ·refine cP h hy3 p3 fun v4 h => ?_
  obtain rfl := Q8 h; exact (Frz.tuple' (.cons q4 p2))
def Qd : Nat → ((List UInt8) → Int → Option (Q0 × Int × Int)) × (Int → (List UInt8) → Int → Option (Q0 × Int × Int)) × (Qg → (List UInt8) → Int → Option (Q0 × Int × Int)) × (Int → (List UInt8) → Int → Option (Q0 × Int × Int))
 | 0 => (fun _ _ => none, fun _ _ _ => none, fun _ _ _ => none, fun _ _ _ => none)
 | N + 1 => (J4 ((Qd N).1) ((Qd N).2.1) ((Qd N).2.2.1) ((Qd N).2.2.2) N, W8 ((Qd N).1) ((Qd N).2.1) ((Qd N).2.2.1) ((Qd N).2.2.2) N, V9 ((Qd N).1) ((Qd N).2.1) ((Qd N).2.2.1) ((Qd N).2.2.2) N, We ((Qd N).1) ((Qd N).2.1) ((Qd N).2.2.1) ((Qd N).2.2.2) N)
def Zh (N : Nat) : (List UInt8) → Int → Option (Q0 × Int × Int) := (Qd N).1
def X3 (N : Nat) : Int → (List UInt8) → Int → Option (Q0 × Int × Int) := (Qd N).2.1
def V4 (N : Nat) : Qg → (List UInt8) → Int → Option (Q0 × Int × Int) := (Qd N).2.2.1
def Vl (N : Nat) : Int → (List UInt8) → Int → Option (Q0 × Int × Int) := (Qd N).2.2.2
theorem Q6j : ∀ N, (∀ {s_0 : List UInt8} {most : Int} {r : Q0 × Int × Int}, (Qd N).1 s_0 most = some r → Z0 Tryz.prog G1 18 [.str s_0, .int .i64 most] (.tuple [.agg (Q0.cells r.1), .int .i64 r.2.1, .int .i64 r.2.2])) ∧ (∀ {code : Int} {s_1 : List UInt8} {most : Int} {r : Q0 × Int × Int}, (Qd N).2.1 code s_1 most = some r → Z0 Tryz.prog G1 65 [.int .i64 code, .str s_1, .int .i64 most] (.tuple [.agg (Q0.cells r.1), .int .i64 r.2.1, .int .i64 r.2.2])) ∧ (∀ {c : Qg} {s_1 : List UInt8} {most : Int} {r : Q0 × Int × Int}, (Qd N).2.2.1 c s_1 most = some r → Z0 Tryz.prog G1 98 [.agg (Qg.cells c), .str s_1, .int .i64 most] (.tuple [.agg (Q0.cells r.1), .int .i64 r.2.1, .int .i64 r.2.2])) ∧ (∀ {code : Int} {s_1 : List UInt8} {most : Int} {r : Q0 × Int × Int}, (Qd N).2.2.2 code s_1 most = some r → Z0 Tryz.prog G1 120 [.int .i64 code, .str s_1, .int .i64 most] (.tuple [.agg (Q0.cells r.1), .int .i64 r.2.1, .int .i64 r.2.2])) := by
 intro N
 induction N with
 | zero => exact ⟨(fun h => by simp [Qd] at h), (fun h => by simp [Qd] at h), (fun h => by simp [Qd] at h), (fun h => by simp [Qd] at h)⟩
 | succ N ih => exact ⟨(fun h => Q61 (N := N) (fun h => ih.1 h) (fun h => ih.2.1 h) (fun h => ih.2.2.1 h) (fun h => ih.2.2.2 h) h), (fun h => Q6c (N := N) (fun h => ih.1 h) (fun h => ih.2.1 h) (fun h => ih.2.2.1 h) (fun h => ih.2.2.2 h) h), (fun h => Q5g (N := N) (fun h => ih.1 h) (fun h => ih.2.1 h) (fun h => ih.2.2.1 h) (fun h => ih.2.2.2 h) h), (fun h => Q5u (N := N) (fun h => ih.1 h) (fun h => ih.2.1 h) (fun h => ih.2.2.1 h) (fun h => ih.2.2.2 h) h)⟩
theorem Q5p {N : Nat} {s_0 : List UInt8} {most : Int} {r : Q0 × Int × Int} (h : Zh N s_0 most = some r) : Z0 Tryz.prog G1 18 [.str s_0, .int .i64 most] (.tuple [.agg (Q0.cells r.1), .int .i64 r.2.1, .int .i64 r.2.2]) := (Q6j N).1 h
def Yn (rv : Q0 → Q0 → Option (Bool)) (N : Nat) (a : Q0) (b : Q0) : Nat → Int → Option (Bool)
 | 0, _ => none
 | n + 1, i22 =>
  cond (Q5 .lss i22 ((Q0.rows a.Items).length : Int))
  ((idx a.Items i22).bind fun y24 =>
  (idx b.Items i22).bind fun y26 =>
  (rv y24 y26).bind fun v28 =>
  cond (!v28)
  (some false)
  (Yn rv N a b n (IntKind.wrap .i64 (i22 + 1))))
  (some true)
def Jf (rv : Q0 → Q0 → Option (Bool)) (N : Nat) (a : Q0) (b : Q0) : Option (Bool) :=
 cond (Q5 .neq a.Kind b.Kind)
 (some false)
 (cond (Q5 .neq a.N' b.N')
 (some false)
 (cond (Q3q .neq a.Text b.Text)
 (some false)
 (cond (Q5 .neq ((Q0.rows a.Items).length : Int) ((Q0.rows b.Items).length : Int))
 (some false)
 (Yn rv N a b N 0))))
theorem Q45 {rv : Q0 → Q0 → Option (Bool)} (hx2 : ∀ {a} {b} {r}, rv a b = some r → Z0 Tryz.prog G1 19 [.agg (Q0.cells a), .agg (Q0.cells b)] (.bool r)) {N} {a} {b} {r} (h : Jf rv N a b = some r) : Z0 Tryz.prog G1 19 [.agg (Q0.cells a), .agg (Q0.cells b)] (.bool r) := by
 refine Q3 k19 ?_
 unfold Jf at h
 apply iU h <;> intro h
 ·cases h; exact (.p _)
 ·apply iU h <;> intro h
  ·cases h; exact (.p _)
  ·apply iU h <;> intro h
   ·cases h; exact (.p _)
   ·apply iU h <;> intro h
    ·cases h; exact (.p _)
    ·refine lpC (τ := Int) (fun i22 => (.any :: .any :: .ptr 0 0 :: .ptr 1 0 :: .any :: iI i22 :: a16 (a16 (a8 (a4 (a2 (.any :: []))))) : List AV)) (fun _ => (.cells (iI a.Kind :: iW a.N' :: iS a.Text :: .p (.slice 4 (Q0.rows a.Items)) :: []) :: .cells (iI b.Kind :: iW b.N' :: iS b.Text :: .p (.slice 4 (Q0.rows b.Items)) :: []) :: [] : List AObj)) (fun n0 i22 => Yn rv N a b n0 i22) (0) h (fun i => i) ⟨(rW <| rE rfl <| rE rfl <| rA <| rE rfl <| rX <| rX <| rX <| rX <| rX <| rV <| rW <| rA <| rN), (hE rfl <| hE rfl <| hN), rfl, rfl, (roE rfl <| roE rfl <| roN)⟩ fun n0 i22 h => ?_
     simp only [Yn] at h
     apply iU h <;> intro h
     ·refine Qe ?_
      refine Q0.xR h fun y24 h => ?_
      refine Q0.xR h fun y26 h => ?_
      refine cD h hx2 (.cons q4 (.cons q4 .nil)) fun v28 h => ?_
      apply iU h <;> intro h
      ·cases h; exact (.p _)
      ·show Exists _
       exact ⟨(n0, (IntKind.wrap .i64 (i22 + 1))), h, Nat.lt_succ_self _, (fun i => i), ⟨(rW <| rE rfl <| rE rfl <| rA <| rE rfl <| rX <| rX <| rX <| rX <| rX <| rV <| rW <| rA <| rN), (hE rfl <| hE rfl <| hN), rfl, rfl, (roE rfl <| roE rfl <| roN)⟩⟩
     ·cases h; exact (.p _)
def Yq : Nat → Q0 → Q0 → Option (Bool)
 | 0 => fun _ _ => none
 | N + 1 => Jf (Yq N) N
theorem Q48 {N} {a} {b} {r} (h : Yq N a b = some r) : Z0 Tryz.prog G1 19 [.agg (Q0.cells a), .agg (Q0.cells b)] (.bool r) := by
 induction N generalizing a b r with
 | zero => simp [Yq] at h
 | succ N ih => exact Q45 (fun h => ih h) h
def Wn (rz1 : Q0 → Int → Int → Option (Int)) (N : Nat) (v : Q0) (deep : Int) (most : Int) : Nat → Int → Int → Option (Int)
 | 0, _, _ => none
 | n + 1, n18, i19 =>
  cond (Q5 .lss i19 ((Q0.rows v.Items).length : Int))
  (cond (Q5 .leq n18 most)
  ((idx v.Items i19).bind fun y22 =>
  (rz1 y22 (IntKind.wrap .i64 (deep - 1)) (IntKind.wrap .i64 (most - n18))).bind fun v24 =>
  Wn rz1 N v deep most n (IntKind.wrap .i64 (n18 + v24)) (IntKind.wrap .i64 (i19 + 1)))
  (some n18))
  (some n18)
def Gx (rz1 : Q0 → Int → Int → Option (Int)) (N : Nat) (v : Q0) (deep : Int) (most : Int) : Option (Int) :=
 cond (Q5 .lss deep 0)
 (some (IntKind.wrap .i64 (most + 1)))
 (cond (Q5 .gtr ((Q0.rows v.Items).length : Int) most)
 (some (IntKind.wrap .i64 (most + 1)))
 (cond (Q5 .gtr (v.Text.length : Int) 400)
 (some (IntKind.wrap .i64 (most + 1)))
 (Wn rz1 N v deep most N 1 0)))
theorem Q70 {rz1 : Q0 → Int → Int → Option (Int)} (hv2 : ∀ {v} {deep} {most} {r}, rz1 v deep most = some r → Z0 Tryz.prog G1 66 [.agg (Q0.cells v), .int .i64 deep, .int .i64 most] (.int .i64 r)) {N} {v} {deep} {most} {r} (h : Gx rz1 N v deep most = some r) : Z0 Tryz.prog G1 66 [.agg (Q0.cells v), .int .i64 deep, .int .i64 most] (.int .i64 r) := by
 refine Q3 k66 ?_
 unfold Gx at h
 apply iU h <;> intro h
 ·cases h; exact (.p _)
 ·apply iU h <;> intro h
  ·cases h; exact (.p _)
  ·apply iU h <;> intro h
   ·cases h; exact (.p _)
   ·refine lpC (τ := Int × Int) (fun ⟨n18, i19⟩ => (.any :: iI deep :: iI most :: .ptr 0 0 :: a2 (.any :: iI n18 :: iI i19 :: a16 (a16 (a8 (a2 (.any :: []))))) : List AV)) (fun ⟨_, _⟩ => (.cells (iI v.Kind :: iW v.N' :: iS v.Text :: .p (.slice 4 (Q0.rows v.Items)) :: []) :: [] : List AObj)) (fun n0 ⟨n18, i19⟩ => Wn rz1 N v deep most n0 n18 i19) (1, 0) h (fun i => i) ⟨(rA <| rE rfl <| rE rfl <| rE rfl <| rW <| rA <| rE rfl <| rE rfl <| rX <| rX <| rX <| rX <| rX <| rW <| rA <| rN), (hE rfl <| hN), rfl, rfl, (roE rfl <| roN)⟩ fun n0 ⟨n18, i19⟩ h => ?_
    simp only [Wn] at h
    apply iU h <;> intro h
    ·apply iU h <;> intro h
     ·refine Q0.xR h fun y22 h => ?_
      refine cP h hv2 (.cons q4 p2) fun v24 h => ?_
      show Exists _
      exact ⟨(n0, (IntKind.wrap .i64 (n18 + v24)), (IntKind.wrap .i64 (i19 + 1))), h, Nat.lt_succ_self _, (fun i => i), ⟨(rA <| rE rfl <| rE rfl <| rE rfl <| rW <| rA <| rE rfl <| rE rfl <| rX <| rX <| rX <| rX <| rX <| rW <| rA <| rN), (hE rfl <| hN), rfl, rfl, (roE rfl <| roN)⟩⟩
     ·cases h; exact (.p _)
    ·cases h; exact (.p _)
def Wz : Nat → Q0 → Int → Int → Option (Int)
 | 0 => fun _ _ _ => none
 | N + 1 => Gx (Wz N) N
theorem Q72 {N} {v} {deep} {most} {r} (h : Wz N v deep most = some r) : Z0 Tryz.prog G1 66 [.agg (Q0.cells v), .int .i64 deep, .int .i64 most] (.int .i64 r) := by
 induction N generalizing v deep most r with
 | zero => simp [Wz] at h
 | succ N ih => exact Q70 (fun h => ih h) h
def V5 (N : Nat) (v : Q0) : Option (Bool) :=
 (Wz N v 6 40).bind fun v1 =>
 some (Q5 .leq v1 40)
theorem Q3v {N} {v} {r} (h : V5 N v = some r) : Z0 Tryz.prog G1 20 [.agg (Q0.cells v)] (.bool r) := by
 refine Q3 k20 ?_
 unfold V5 at h
 refine cP h Q72 (.cons q4 p2) fun v1 h => ?_
 cases h; exact (.p _)
def Ux (rz : Q0 → Q0 → Option (Bool)) (N : Nat) (a : Q0) (b : Q0) : Nat → Int → Option (Bool)
 | 0, _ => none
 | n + 1, s22 =>
  cond (Q5 .lss s22 ((Q0.rows a.Items).length : Int))
  ((idx a.Items s22).bind fun y24 =>
  (idx b.Items s22).bind fun y26 =>
  (rz y24 y26).bind fun v28 =>
  cond (!v28)
  (some false)
  (Ux rz N a b n (IntKind.wrap .i64 (s22 + 1))))
  (some true)
def Q29 (rz : Q0 → Q0 → Option (Bool)) (N : Nat) (a : Q0) (b : Q0) : Option (Bool) :=
 cond (Q5 .neq a.Kind b.Kind)
 (some false)
 (cond (Q5 .neq a.N' b.N')
 (some false)
 (cond (Q3q .neq a.Text b.Text)
 (some false)
 (cond (Q5 .neq ((Q0.rows a.Items).length : Int) ((Q0.rows b.Items).length : Int))
 (some false)
 (Ux rz N a b N 0))))
theorem Qap {rz : Q0 → Q0 → Option (Bool)} (hy2 : ∀ {a} {b} {r}, rz a b = some r → Z0 Tryz.prog G1 67 [.agg (Q0.cells a), .agg (Q0.cells b)] (.bool r)) {N} {a} {b} {r} (h : Q29 rz N a b = some r) : Z0 Tryz.prog G1 67 [.agg (Q0.cells a), .agg (Q0.cells b)] (.bool r) := by
 refine Q3 k67 ?_
 unfold Q29 at h
 apply iU h <;> intro h
 ·cases h; exact (.p _)
 ·apply iU h <;> intro h
  ·cases h; exact (.p _)
  ·apply iU h <;> intro h
   ·cases h; exact (.p _)
   ·apply iU h <;> intro h
    ·cases h; exact (.p _)
    ·refine lpC (τ := Int) (fun s22 => (.any :: .any :: .ptr 0 0 :: .ptr 1 0 :: a16 (a16 (iI ((Q0.rows a.Items).length : Int) :: iI s22 :: a8 (a4 (a2 (.any :: []))))) : List AV)) (fun _ => (.cells (iI a.Kind :: iW a.N' :: iS a.Text :: .p (.slice 4 (Q0.rows a.Items)) :: []) :: .cells (iI b.Kind :: iW b.N' :: iS b.Text :: .p (.slice 4 (Q0.rows b.Items)) :: []) :: [] : List AObj)) (fun n0 s22 => Ux rz N a b n0 s22) (0) h (fun i => i) ⟨(rW <| rE rfl <| rE rfl <| rX <| rX <| rX <| rX <| rE rfl <| rE rfl <| rX <| rV <| rW <| rA <| rN), (hE rfl <| hE rfl <| hN), rfl, rfl, (roE rfl <| roE rfl <| roN)⟩ fun n0 s22 h => ?_
     simp only [Ux] at h
     apply iU h <;> intro h
     ·refine Qe ?_
      refine Q0.xR h fun y24 h => ?_
      refine Q0.xR h fun y26 h => ?_
      refine cD h hy2 (.cons q4 (.cons q4 .nil)) fun v28 h => ?_
      apply iU h <;> intro h
      ·cases h; exact (.p _)
      ·show Exists _
       exact ⟨(n0, (IntKind.wrap .i64 (s22 + 1))), h, Nat.lt_succ_self _, (fun i => i), ⟨(rW <| rE rfl <| rE rfl <| rX <| rX <| rX <| rX <| rE rfl <| rE rfl <| rX <| rV <| rW <| rA <| rN), (hE rfl <| hE rfl <| hN), rfl, rfl, (roE rfl <| roE rfl <| roN)⟩⟩
     ·cases h; exact (.p _)
def Jr : Nat → Q0 → Q0 → Option (Bool)
 | 0 => fun _ _ => none
 | N + 1 => Q29 (Jr N) N
theorem Qa3 {N} {a} {b} {r} (h : Jr N a b = some r) : Z0 Tryz.prog G1 67 [.agg (Q0.cells a), .agg (Q0.cells b)] (.bool r) := by
 induction N generalizing a b r with
 | zero => simp [Jr] at h
 | succ N ih => exact Qap (fun h => ih h) h
def Vw (_N : Nat) (v : Q0) : Option (Bool) :=
 cond (Q3q .neq v.Text [])
 (some false)
 (cond (!(Q5 .eql v.Kind 24))
 (cond (Q5 .neq v.N' 0)
 (some false)
 (cond (Q5 .eql v.Kind 24)
 (cond (Q5 .geq v.N' 1)
 (some (Q5 .leq v.N' 24))
 (some false))
 (cond (Q5 .eql v.Kind 25)
 (some (Q5 .eql ((Q0.rows v.Items).length : Int) 2))
 (cond (Q5 .neq v.Kind 23)
 (some true)
 (some (Q5 .eql ((((Q0.rows v.Items).length : Int) : Int).tmod 2) 0))))))
 (cond (Q5 .eql v.Kind 24)
 (cond (Q5 .geq v.N' 1)
 (some (Q5 .leq v.N' 24))
 (some false))
 (cond (Q5 .eql v.Kind 25)
 (some (Q5 .eql ((Q0.rows v.Items).length : Int) 2))
 (cond (Q5 .neq v.Kind 23)
 (some true)
 (some (Q5 .eql ((((Q0.rows v.Items).length : Int) : Int).tmod 2) 0))))))
theorem Q4q {N} {v} {r} (h : Vw N v = some r) : Z0 Tryz.prog G1 99 [.agg (Q0.cells v)] (.bool r) := by
 refine Q3 k99 ?_
 unfold Vw at h
 apply iU h <;> intro h
 ·cases h; exact (.p _)
 ·apply iU h <;> intro h
  ·apply iU h <;> intro h
   ·cases h; exact (.p _)
   ·apply iU h <;> intro h
    ·apply iU h <;> intro h
     ·cases h; exact (.p _)
     ·cases h; exact (.p _)
    ·apply iU h <;> intro h
     ·cases h; exact (.p _)
     ·apply iU h <;> intro h
      ·cases h; exact (.p _)
      ·cases h; exact (.p _)
  ·apply iU h <;> intro h
   ·apply iU h <;> intro h
    ·cases h; exact (.p _)
    ·cases h; exact (.p _)
   ·apply iU h <;> intro h
    ·cases h; exact (.p _)
    ·apply iU h <;> intro h
     ·cases h; exact (.p _)
     ·cases h; exact (.p _)
def Yj (rw1 : Q0 → Int → Option (Int)) (N : Nat) (v : Q0) (most : Int) : Nat → Int → Option (Int)
 | 0, _ => none
 | n + 1, i42 =>
  cond (Q5 .lss i42 ((Q0.rows v.Items).length : Int))
  (cond (Q5 .eql v.Kind 24)
  ((idx v.Items i42).bind fun y45 =>
  cond (Q5 .neq (IntKind.wrap .u64 y45.Kind) v.N')
  (some 8)
  ((idx v.Items i42).bind fun y48 =>
  (rw1 y48 (IntKind.wrap .i64 (most - 1))).bind fun v50 =>
  cond (Q5 .neq v50 0)
  (some v50)
  (Yj rw1 N v most n (IntKind.wrap .i64 (i42 + 1)))))
  ((idx v.Items i42).bind fun y53 =>
  (rw1 y53 (IntKind.wrap .i64 (most - 1))).bind fun v55 =>
  cond (Q5 .neq v55 0)
  (some v55)
  (Yj rw1 N v most n (IntKind.wrap .i64 (i42 + 1)))))
  (cond (Q5 .eql v.Kind 23)
  ((Ym N v.Items).bind fun v59 =>
  cond v59
  (some 16)
  (some 0))
  (some 0))
def G8 (rw1 : Q0 → Int → Option (Int)) (N : Nat) (v : Q0) (most : Int) : Option (Int) :=
 cond (Q5 .lss v.Kind 1)
 (some 8)
 (cond (Q5 .gtr v.Kind 25)
 (some 8)
 (cond (Q5 .leq v.Kind 21)
 ((Qy N v).bind fun v4 =>
 some v4)
 (cond (Q5 .eql most 0)
 (some 14)
 ((Vw N v).bind fun v7 =>
 cond (!v7)
 (some 2)
 (cond (Q5 .gtr ((Q0.rows v.Items).length : Int) 1000)
 (some 4)
 (Yj rw1 N v most N 0))))))
theorem Q54 {rw1 : Q0 → Int → Option (Int)} (hw3 : ∀ {v} {most} {r}, rw1 v most = some r → Z0 Tryz.prog G1 68 [.agg (Q0.cells v), .int .i64 most] (.int .i64 r)) {N} {v} {most} {r} (h : G8 rw1 N v most = some r) : Z0 Tryz.prog G1 68 [.agg (Q0.cells v), .int .i64 most] (.int .i64 r) := by
 refine Q3 k68 ?_
 unfold G8 at h
 apply iU h <;> intro h
 ·cases h; exact (.p _)
 ·apply iU h <;> intro h
  ·cases h; exact (.p _)
  ·apply iU h <;> intro h
   ·refine cP h Zs (.cons q4 .nil) fun v4 h => ?_
    cases h; exact (.p _)
   ·apply iU h <;> intro h
    ·cases h; exact (.p _)
    ·refine cP h Q4q (.cons q4 .nil) fun v7 h => ?_
     apply iU h <;> intro h
     ·cases h; exact (.p _)
     ·apply iU h <;> intro h
      ·cases h; exact (.p _)
      ·refine lpC (τ := Int) (fun i42 => (.any :: iI most :: .ptr 0 0 :: .any :: .any :: iI i42 :: a16 (a16 (a16 (a16 (a2 (.any :: []))))) : List AV)) (fun _ => (.cells (iI v.Kind :: iW v.N' :: iS v.Text :: .p (.slice 4 (Q0.rows v.Items)) :: []) :: [] : List AObj)) (fun n0 i42 => Yj rw1 N v most n0 i42) (0) h (fun i => i) ⟨(rA <| rE rfl <| rE rfl <| rW <| rE rfl <| rX <| rX <| rX <| rX <| rX <| rX <| rX <| rX <| rW <| rA <| rN), (hE rfl <| hN), rfl, rfl, (roE rfl <| roN)⟩ fun n0 i42 h => ?_
       simp only [Yj] at h
       apply iU h <;> intro h
       ·refine Qe ?_
        apply iU h <;> intro h
        ·refine Q0.xR h fun y45 h => ?_
         apply iU h <;> intro h
         ·cases h; exact (.p _)
         ·refine Q0.xR h fun y48 h => ?_
          refine cP h hw3 (.cons q4 p1) fun v50 h => ?_
          apply iU h <;> intro h
          ·cases h; exact (.p _)
          ·show Exists _
           exact ⟨(n0, (IntKind.wrap .i64 (i42 + 1))), h, Nat.lt_succ_self _, (fun i => i), ⟨(rA <| rE rfl <| rE rfl <| rW <| rE rfl <| rX <| rX <| rX <| rX <| rX <| rX <| rX <| rX <| rW <| rA <| rN), (hE rfl <| hN), rfl, rfl, (roE rfl <| roN)⟩⟩
        ·refine Q0.xR h fun y53 h => ?_
         refine cP h hw3 (.cons q4 p1) fun v55 h => ?_
         apply iU h <;> intro h
         ·cases h; exact (.p _)
         ·show Exists _
          exact ⟨(n0, (IntKind.wrap .i64 (i42 + 1))), h, Nat.lt_succ_self _, (fun i => i), ⟨(rA <| rE rfl <| rE rfl <| rW <| rE rfl <| rX <| rX <| rX <| rX <| rX <| rX <| rX <| rX <| rW <| rA <| rN), (hE rfl <| hN), rfl, rfl, (roE rfl <| roN)⟩⟩
       ·apply iU h <;> intro h
        ·refine cP h Gk p1 fun v59 h => ?_
         apply iU h <;> intro h
         ·cases h; exact (.p _)
         ·cases h; exact (.p _)
        ·cases h; exact (.p _)
def Xm : Nat → Q0 → Int → Option (Int)
 | 0 => fun _ _ => none
 | N + 1 => G8 (Xm N) N
theorem Q53 {N} {v} {most} {r} (h : Xm N v most = some r) : Z0 Tryz.prog G1 68 [.agg (Q0.cells v), .int .i64 most] (.int .i64 r) := by
 induction N generalizing v most r with
 | zero => simp [Xm] at h
 | succ N ih => exact Q54 (fun h => ih h) h
def Xq (N : Nat) (v : Q0) (most : Int) : Option (Int) :=
 cond (Q5 .lss most 0)
 (some 2)
 (cond (Q5 .gtr most 32)
 (some 2)
 ((Xm N v most).bind fun v3 =>
 some v3))
theorem Gn {N} {v} {most} {r} (h : Xq N v most = some r) : Z0 Tryz.prog G1 23 [.agg (Q0.cells v), .int .i64 most] (.int .i64 r) := by
 refine Q3 k23 ?_
 unfold Xq at h
 apply iU h <;> intro h
 ·cases h; exact (.p _)
 ·apply iU h <;> intro h
  ·cases h; exact (.p _)
  ·refine cP h Q53 (.cons q4 p1) fun v3 h => ?_
   cases h; exact (.p _)
def Vs (N : Nat) (w : Yu) : Option ((Unit) × Yu) :=
 (J2 N (IntKind.wrap .u64 0) 4).bind fun v1 =>
 cond (!(Nat.beq v1.length 0)) (cond (Nat.ble ((w.buffer.b.length + v1.length + 4096) * 1) 17592186044416) ((J2 N (IntKind.wrap .u64 (IntKind.wrap .i64 (2 + (IntKind.wrap .i64 (((w.f.Ext.length : Int) : Int).tdiv 4))))) 1).bind fun v5 =>
 cond (!(Nat.beq v5.length 0)) (cond (Nat.ble (((w.buffer.b.length + v1.length) + v5.length + 4096) * 1) 17592186044416) ((J2 N (IntKind.wrap .u64 w.f.Type') 1).bind fun v9 =>
 cond (!(Nat.beq v9.length 0)) (cond (Nat.ble ((((w.buffer.b.length + v1.length) + v5.length) + v9.length + 4096) * 1) 17592186044416) ((J2 N (IntKind.wrap .u64 w.f.Channel) 2).bind fun v13 =>
 cond (!(Nat.beq v13.length 0)) (cond (Nat.ble (((((w.buffer.b.length + v1.length) + v5.length) + v9.length) + v13.length + 4096) * 1) 17592186044416) (cond (Nat.beq w.f.Ext.length 0)
 (some ((), (⟨(⟨((((w.buffer.b ++ (v1.map fun b => (b.toNat : Int))) ++ (v5.map fun b => (b.toNat : Int))) ++ (v9.map fun b => (b.toNat : Int))) ++ (v13.map fun b => (b.toNat : Int)))⟩ : Jy), w.f⟩ : Yu)))
 (cond (Nat.ble ((((((w.buffer.b.length + v1.length) + v5.length) + v9.length) + v13.length) + w.f.Ext.length + 4096) * 1) 17592186044416) (some ((), (⟨(⟨(((((w.buffer.b ++ (v1.map fun b => (b.toNat : Int))) ++ (v5.map fun b => (b.toNat : Int))) ++ (v9.map fun b => (b.toNat : Int))) ++ (v13.map fun b => (b.toNat : Int))) ++ (w.f.Ext.map fun b => (b.toNat : Int)))⟩ : Jy), w.f⟩ : Yu))) none)) none) none) none) none) none) none) none) none
theorem Q4p {N} {w} {r} (h : Vs N w = some r) : GC Tryz.prog G1 69 (.ptr 0 0 :: []) (.cells (.slice 1 1 0 w.buffer.b.length :: .p (.int .i64 w.f.Type') :: .p (.int .i64 w.f.Channel) :: .p (.str w.f.Ext) :: .p (.slice 4 (Q0.rows w.f.Values)) :: []) :: .cells (Xj (cI .u8) w.buffer.b) :: []) (.tuple []) (.cells (.slice 1 2 0 r.2.buffer.b.length :: .p (.int .i64 r.2.f.Type') :: .p (.int .i64 r.2.f.Channel) :: .p (.str r.2.f.Ext) :: .p (.slice 4 (Q0.rows r.2.f.Values)) :: []) :: .dead :: .cells (Xj (cI .u8) r.2.buffer.b) :: []) := by
 refine Q4d k69 (Nat.le_of_ble_eq_true rfl) ?_
 unfold Vs at h
 refine Gs Qzp ?_
 refine cP h Jg p2 fun v1 h => ?_
 refine Gs k70 ?_
 refine Qbz (b := v1) ?_
 obtain ⟨hk3, h⟩ := Q38 h
 refine ifF (Qtm hk3) ?_
 obtain ⟨hk4, h⟩ := Q38 h
 refine Q2a (X6 (c := (cI .u8)) (e := 1) (l := w.buffer.b) (fun _ => rfl) (by simp) hk4) ?_
 refine Vt (c := (cI .u8)) (l := w.buffer.b) (v1.map fun b => (b.toNat : Int)) rfl ?_
 refine Q1n 11 rfl rfl ?_
 refine Gs Qzp ?_
 refine cP h Jg p2 fun v5 h => ?_
 refine Gs k70 ?_
 refine Qbz (b := v5) ?_
 obtain ⟨hk7, h⟩ := Q38 h
 refine ifF (Qtm hk7) ?_
 obtain ⟨hk8, h⟩ := Q38 h
 refine Q2a (X6 (c := (cI .u8)) (e := 1) (l := (w.buffer.b ++ (v1.map fun b => (b.toNat : Int)))) (fun _ => rfl) (by simp) hk8) ?_
 refine Vt (c := (cI .u8)) (l := (w.buffer.b ++ (v1.map fun b => (b.toNat : Int)))) (v5.map fun b => (b.toNat : Int)) rfl ?_
 refine Q1n 8 rfl rfl ?_
 refine Gs Qzp ?_
 refine cP h Jg p2 fun v9 h => ?_
 refine Gs k70 ?_
 refine Qbz (b := v9) ?_
 obtain ⟨hk11, h⟩ := Q38 h
 refine ifF (Qtm hk11) ?_
 obtain ⟨hk12, h⟩ := Q38 h
 refine Q2a (X6 (c := (cI .u8)) (e := 1) (l := ((w.buffer.b ++ (v1.map fun b => (b.toNat : Int))) ++ (v5.map fun b => (b.toNat : Int)))) (fun _ => rfl) (by simp <;> omega) hk12) ?_
 refine Vt (c := (cI .u8)) (l := ((w.buffer.b ++ (v1.map fun b => (b.toNat : Int))) ++ (v5.map fun b => (b.toNat : Int)))) (v9.map fun b => (b.toNat : Int)) rfl ?_
 refine Q1n 8 rfl rfl ?_
 refine Gs Qzp ?_
 refine cP h Jg p2 fun v13 h => ?_
 refine Gs k70 ?_
 refine Qbz (b := v13) ?_
 obtain ⟨hk15, h⟩ := Q38 h
 refine ifF (Qtm hk15) ?_
 obtain ⟨hk16, h⟩ := Q38 h
 refine Q2a (X6 (c := (cI .u8)) (e := 1) (l := (((w.buffer.b ++ (v1.map fun b => (b.toNat : Int))) ++ (v5.map fun b => (b.toNat : Int))) ++ (v9.map fun b => (b.toNat : Int)))) (fun _ => rfl) (by simp <;> omega) hk16) ?_
 refine Vt (c := (cI .u8)) (l := (((w.buffer.b ++ (v1.map fun b => (b.toNat : Int))) ++ (v5.map fun b => (b.toNat : Int))) ++ (v9.map fun b => (b.toNat : Int)))) (v13.map fun b => (b.toNat : Int)) rfl ?_
 refine Q1n 8 rfl rfl ?_
 refine Gs k70 ?_
 refine Qbz (b := w.f.Ext) ?_
 apply iU h <;> intro h
 ·obtain rfl := Q8 h
  show Exists _
  exact ⟨(rho [0, 1, 5]), ⟨(rE rfl <| rN), (hC rfl (rL (by simp <;> omega) rfl <| rE rfl <| rE rfl <| rE rfl <| rE rfl <| rN) <| hD <| hO rfl <| hN), rfl, rfl, (roE rfl <| roE rfl <| roE (Q9 _ _ _) <| roN)⟩⟩
 ·obtain ⟨hk18, h⟩ := Q38 h
  refine Q2a (X6 (c := (cI .u8)) (e := 1) (l := ((((w.buffer.b ++ (v1.map fun b => (b.toNat : Int))) ++ (v5.map fun b => (b.toNat : Int))) ++ (v9.map fun b => (b.toNat : Int))) ++ (v13.map fun b => (b.toNat : Int)))) (fun _ => rfl) (by simp <;> omega) hk18) ?_
  refine Vt (c := (cI .u8)) (l := ((((w.buffer.b ++ (v1.map fun b => (b.toNat : Int))) ++ (v5.map fun b => (b.toNat : Int))) ++ (v9.map fun b => (b.toNat : Int))) ++ (v13.map fun b => (b.toNat : Int)))) (w.f.Ext.map fun b => (b.toNat : Int)) rfl ?_
  obtain rfl := Q8 h
  show Exists _
  exact ⟨(rho [0, 1, 6]), ⟨(rE rfl <| rN), (hC rfl (rL (by simp <;> omega) rfl <| rE rfl <| rE rfl <| rE rfl <| rE rfl <| rN) <| hD <| hO rfl <| hN), rfl, rfl, (roE rfl <| roE rfl <| roE (Q9 _ _ _) <| roN)⟩⟩
def Vr (N : Nat) (w : Yu) : Option ((Unit) × Yu) :=
 (J2 N (IntKind.wrap .u64 (w.buffer.b.length : Int)) 4).bind fun v1 =>
 cond (Nat.ble 1 w.buffer.b.length) (some ((), (⟨(⟨(((v1.map fun b => (b.toNat : Int)).take w.buffer.b.length) ++ (w.buffer.b : List Int).drop ((v1.map fun b => (b.toNat : Int)).take w.buffer.b.length).length)⟩ : Jy), w.f⟩ : Yu))) none
theorem Q4m {N} {w} {r} (h : Vr N w = some r) : GC Tryz.prog G1 71 (.ptr 0 0 :: []) (.cells (.slice 1 1 0 w.buffer.b.length :: .p (.int .i64 w.f.Type') :: .p (.int .i64 w.f.Channel) :: .p (.str w.f.Ext) :: .p (.slice 4 (Q0.rows w.f.Values)) :: []) :: .cells (Xj (cI .u8) w.buffer.b) :: []) (.tuple []) (.cells (.slice 1 2 0 r.2.buffer.b.length :: .p (.int .i64 r.2.f.Type') :: .p (.int .i64 r.2.f.Channel) :: .p (.str r.2.f.Ext) :: .p (.slice 4 (Q0.rows r.2.f.Values)) :: []) :: .dead :: .cells (Xj (cI .u8) r.2.buffer.b) :: []) := by
 refine Q4d k71 (Nat.le_of_ble_eq_true rfl) ?_
 unfold Vr at h
 refine Qe ?_
 refine cD h Jg p2 fun v1 h => ?_
 refine Qbz (b := v1) ?_
 obtain ⟨hk3, h⟩ := Q38 h
 refine Q2a (Qu9 (c := (cI .u8)) (l := (w.buffer.b : List Int)) (fun _ => rfl) (by simp) hk3) ?_
 refine Qxv (c := (cI .u8)) (l := (w.buffer.b : List Int)) (new := (v1.map fun b => (b.toNat : Int))) (fun _ => rfl) ?_
 obtain rfl := Q8 h
 show Exists _
 exact ⟨(rho [0, 1, 1]), ⟨(rE rfl <| rN), (hC rfl (rL (by simp <;> omega) rfl <| rE rfl <| rE rfl <| rE rfl <| rE rfl <| rN) <| hD <| hO rfl <| hN), rfl, rfl, (roE rfl <| roE rfl <| roE (Q9 _ _ _) <| roN)⟩⟩
def Q0b (N : Nat) (v : Q0) (most : Int) : Option (Int × Int) :=
 (Uz N v most).bind fun v1 =>
 cond (Q5 .neq v1 0)
 (some (0, v1))
 ((Ws N v).bind fun v4 =>
 (U2 N v4).bind fun v6 =>
 (Wf N v6).bind fun v8 =>
 (Ya N v6 v8).bind fun v10 =>
 some ((IntKind.wrap .i64 (1 + v10)), 0))
theorem Q9o {N} {v} {most} {r} (h : Q0b N v most = some r) : Z0 Tryz.prog G1 33 [.agg (Q0.cells v), .int .i64 most] (.tuple [.int .i64 r.1, .int .i64 r.2]) := by
 refine Q3 k33 ?_
 unfold Q0b at h
 refine cP h Q1c (.cons q4 p1) fun v1 h => ?_
 apply iU h <;> intro h
 ·obtain rfl := Q8 h; exact u2
 ·refine cP h Q1s (.cons q4 .nil) fun v4 h => ?_
  refine cP h Q2w p1 fun v6 h => ?_
  refine Qe ?_
  refine cD h Gv (.cons (Frz.agg' (.cons (.p _) (.cons (.p _) p5))) .nil) fun v8 h => ?_
  refine cD h Q27 (.cons (Frz.agg' (.cons (.p _) (.cons (.p _) p5))) p1) fun v10 h => ?_
  obtain rfl := Q8 h; exact u2
def Jv (_N : Nat) (l : Qw) : Option (Bool) :=
 cond (Q5 .geq l.MaxPacket 16)
 (cond (Q5 .leq l.MaxPacket 1048576)
 (cond (Q5 .geq l.MaxDepth 0)
 (some (Q5 .leq l.MaxDepth 32))
 (some false))
 (some false))
 (some false)
theorem Q3u {N} {l} {r} (h : Jv N l = some r) : Z0 Tryz.prog G1 77 [.agg (Qw.cells l)] (.bool r) := by
 refine Q3 k77 ?_
 unfold Jv at h
 apply iU h <;> intro h
 ·apply iU h <;> intro h
  ·apply iU h <;> intro h
   ·cases h; exact (.p _)
   ·cases h; exact (.p _)
  ·cases h; exact (.p _)
 ·cases h; exact (.p _)
def G0 (_N : Nat) (n_0 : Int) : Option (Bool) :=
 cond (Q5 .eql n_0 0)
 (some true)
 (some (Q5 .eql n_0 1))
theorem Q3y {N} {n_0} {r} (h : G0 N n_0 = some r) : Z0 Tryz.prog G1 79 [.int .i64 n_0] (.bool r) := by
 refine Q3 k79 ?_
 unfold G0 at h
 apply iU h <;> intro h
 ·cases h; exact (.p _)
 ·cases h; exact (.p _)
def U1 (N : Nat) (f : Qf) (l : Qw) : Nat → Int → Int → Option (Int)
 | 0, _, _ => none
 | n + 1, all44, s45 =>
  cond (Q5 .lss s45 ((Q0.rows f.Values).length : Int))
  ((idx f.Values s45).bind fun y47 =>
  (Q0b N y47 l.MaxDepth).bind fun v49 =>
  U1 N f l n (IntKind.wrap .i64 (all44 + v49.1)) (IntKind.wrap .i64 (s45 + 1)))
  (cond (Q5 .gtr all44 l.MaxPacket)
  (some 4)
  (some 0))
def U0 (N : Nat) (f : Qf) (l : Qw) : Nat → Int → Option (Int)
 | 0, _ => none
 | n + 1, s25 =>
  cond (Q5 .lss s25 ((Q0.rows f.Values).length : Int))
  ((idx f.Values s25).bind fun y27 =>
  (Uz N y27 l.MaxDepth).bind fun v29 =>
  cond (Q5 .neq v29 0)
  (some v29)
  (U0 N f l n (IntKind.wrap .i64 (s25 + 1))))
  (U1 N f l N (IntKind.wrap .i64 (8 + (f.Ext.length : Int))) 0)
def G2 (N : Nat) (f : Qf) (l : Qw) : Option (Int) :=
 (Jv N l).bind fun v1 =>
 cond (!v1)
 (some 2)
 ((G0 N f.Type').bind fun v4 =>
 cond (!v4)
 (some 8)
 (cond (Q5 .lss f.Channel 0)
 (some 2)
 (cond (Q5 .gtr f.Channel 65535)
 (some 2)
 (cond (Q5 .gtr (f.Ext.length : Int) 1012)
 (some 2)
 (cond (Q5 .neq (((f.Ext.length : Int) : Int).tmod 4) 0)
 (some 2)
 (cond (Q5 .gtr ((Q0.rows f.Values).length : Int) 1000)
 (some 4)
 (U0 N f l N 0)))))))
theorem Q3x {N} {f} {l} {r} (h : G2 N f l = some r) : Z0 Tryz.prog G1 42 [.agg (Qf.cells f), .agg (Qw.cells l)] (.int .i64 r) := by
 refine Q3 k42 ?_
 unfold G2 at h
 refine cP h Q3u (.cons q2 .nil) fun v1 h => ?_
 apply iU h <;> intro h
 ·cases h; exact (.p _)
 ·refine cP h Q3y p1 fun v4 h => ?_
  apply iU h <;> intro h
  ·cases h; exact (.p _)
  ·apply iU h <;> intro h
   ·cases h; exact (.p _)
   ·apply iU h <;> intro h
    ·cases h; exact (.p _)
    ·apply iU h <;> intro h
     ·cases h; exact (.p _)
     ·apply iU h <;> intro h
      ·cases h; exact (.p _)
      ·apply iU h <;> intro h
       ·cases h; exact (.p _)
       ·refine lpC (τ := Int) (fun s25 => (.any :: .any :: .ptr 0 0 :: .ptr 1 0 :: a16 (a16 (a8 (a2 (.p (.slice 4 (Q0.rows f.Values)) :: iI ((Q0.rows f.Values).length : Int) :: iI s25 :: a16 (a16 (a4 (.any :: []))))))) : List AV)) (fun _ => (.cells (iI f.Type' :: iI f.Channel :: iS f.Ext :: .p (.slice 4 (Q0.rows f.Values)) :: []) :: .cells (iI l.MaxPacket :: iI l.MaxDepth :: []) :: [] : List AObj)) (fun n0 s25 => U0 N f l n0 s25) (0) h (fun i => i) ⟨(rW <| rE rfl <| rE rfl <| rX <| rX <| rX <| rX <| rX <| rW <| rE rfl <| rE rfl <| rE rfl <| rX <| rX <| rX <| rX <| rV <| rA <| rN), (hE rfl <| hE rfl <| hN), rfl, rfl, (roE rfl <| roE rfl <| roN)⟩ fun n0 s25 h => ?_
        simp only [U0] at h
        apply iU h <;> intro h
        ·refine Q0.xR h fun y27 h => ?_
         refine cP h Q1c (.cons q4 p1) fun v29 h => ?_
         apply iU h <;> intro h
         ·cases h; exact (.p _)
         ·show Exists _
          exact ⟨(n0, (IntKind.wrap .i64 (s25 + 1))), h, Nat.lt_succ_self _, (fun i => i), ⟨(rW <| rE rfl <| rE rfl <| rX <| rX <| rX <| rX <| rX <| rW <| rE rfl <| rE rfl <| rE rfl <| rX <| rX <| rX <| rX <| rV <| rA <| rN), (hE rfl <| hE rfl <| hN), rfl, rfl, (roE rfl <| roE rfl <| roN)⟩⟩
        ·refine lpC (τ := Int × Int) (fun ⟨all44, s45⟩ => (a2 (.any :: .ptr 1 0 :: a4 (iI all44 :: a16 (a16 (a16 (a8 (.p (.slice 4 (Q0.rows f.Values)) :: iI ((Q0.rows f.Values).length : Int) :: iI s45 :: a16 (a2 ([])))))))) : List AV)) (fun ⟨_, _⟩ => (.cells (iI f.Type' :: iI f.Channel :: iS f.Ext :: .p (.slice 4 (Q0.rows f.Values)) :: []) :: .cells (iI l.MaxPacket :: iI l.MaxDepth :: []) :: [] : List AObj)) (fun n1 ⟨all44, s45⟩ => U1 N f l n1 all44 s45) ((IntKind.wrap .i64 (8 + (f.Ext.length : Int))), 0) h (fun i => i) ⟨(rW <| rA <| rE rfl <| rV <| rE rfl <| rX <| rX <| rX <| rX <| rX <| rX <| rX <| rE rfl <| rE rfl <| rE rfl <| rX <| rX <| rW <| rN), (hE rfl <| hE rfl <| hN), rfl, rfl, (roE rfl <| roE rfl <| roN)⟩ fun n1 ⟨all44, s45⟩ h => ?_
         simp only [U1] at h
         apply iU h <;> intro h
         ·refine Q0.xR h fun y47 h => ?_
          refine cP h Q9o (.cons q4 p1) fun v49 h => ?_
          show Exists _
          exact ⟨(n1, (IntKind.wrap .i64 (all44 + v49.1)), (IntKind.wrap .i64 (s45 + 1))), h, Nat.lt_succ_self _, (fun i => i), ⟨(rW <| rA <| rE rfl <| rV <| rE rfl <| rX <| rX <| rX <| rX <| rX <| rX <| rX <| rE rfl <| rE rfl <| rE rfl <| rX <| rX <| rW <| rN), (hE rfl <| hE rfl <| hN), rfl, rfl, (roE rfl <| roE rfl <| roN)⟩⟩
         ·apply iU h <;> intro h
          ·cases h; exact (.p _)
          ·cases h; exact (.p _)
def Wx (N : Nat) (f : Qf) (l : Qw) (v4 : (Unit) × Yu) : Nat → Int → (List Int) → Option ((List UInt8) × Int)
 | 0, _, _ => none
 | n + 1, s22, l23 =>
  cond (Q5 .lss s22 ((Q0.rows f.Values).length : Int))
  ((idx f.Values s22).bind fun y25 =>
  (Q01 N y25 l.MaxDepth).bind fun v27 =>
  cond (Nat.beq v27.1.length 0)
  (Wx N f l v4 n (IntKind.wrap .i64 (s22 + 1)) l23)
  (cond (Nat.ble ((l23.length + v27.1.length + 4096) * 1) 17592186044416) (Wx N f l v4 n (IntKind.wrap .i64 (s22 + 1)) (l23 ++ (v27.1.map fun b => (b.toNat : Int)))) none))
  ((Vr N (⟨(⟨l23⟩ : Jy), v4.2.f⟩ : Yu)).bind fun v31 =>
  some ((v31.2.buffer.b.map fun n => UInt8.ofNat n.toNat), 0))
def Jw (N : Nat) (f : Qf) (l : Qw) : Option ((List UInt8) × Int) :=
 (G2 N f l).bind fun v1 =>
 cond (Q5 .neq v1 0)
 (some ([], v1))
 ((Vs N (⟨(⟨[]⟩ : Jy), f⟩ : Yu)).bind fun v4 =>
 Wx N f l v4 N 0 v4.2.buffer.b)
theorem Q3e {N} {f} {l} {r} (h : Jw N f l = some r) : Z0 Tryz.prog G1 26 [.agg (Qf.cells f), .agg (Qw.cells l)] (.tuple [.str r.1, .int .i64 r.2]) := by
 refine Q3 k26 ?_
 unfold Jw at h
 refine cP h Q3x (.cons q4 (.cons q2 .nil)) fun v1 h => ?_
 apply iU h <;> intro h
 ·obtain rfl := Q8 h; exact u2
 ·refine cG h Q4p fun v4 h => ?_
  refine ⟨rho [2, 4], (.cells (iI f.Type' :: iI f.Channel :: iS f.Ext :: .p (.slice 4 (Q0.rows f.Values)) :: []) :: .cells (iI l.MaxPacket :: iI l.MaxDepth :: []) :: .cells (.slice 1 3 0 v4.2.buffer.b.length :: iI v4.2.f.Type' :: iI v4.2.f.Channel :: iS v4.2.f.Ext :: .p (.slice 4 (Q0.rows v4.2.f.Values)) :: []) :: .cells (Xj (cI .u8) v4.2.buffer.b) :: []), .tuple [], ⟨(rE rfl <| rN), (hC rfl (rS <| rE rfl <| rE rfl <| rE rfl <| rE rfl <| rN) <| hV lb <| hN), rfl, rfl, (roE rfl <| roE (Q9 _ _ _) <| roN), rfl, (fK rfl rfl <| fK rfl rfl <| fR 0 rfl rfl rfl rfl <| fO 2 rfl rfl rfl <| fN), rfl⟩, ?_⟩
  refine lpC (τ := Int × (List Int)) (fun ⟨s22, _⟩ => (a2 (.any :: .ptr 1 0 :: a2 (.any :: .ptr 2 0 :: a8 (a4 (a2 (.p (.slice 4 (Q0.rows f.Values)) :: iI ((Q0.rows f.Values).length : Int) :: iI s22 :: a16 (a2 (.any :: []))))))) : List AV)) (fun ⟨_, l23⟩ => (.cells (iI f.Type' :: iI f.Channel :: iS f.Ext :: .p (.slice 4 (Q0.rows f.Values)) :: []) :: .cells (iI l.MaxPacket :: iI l.MaxDepth :: []) :: .cells (.slice 1 4 0 l23.length :: iI v4.2.f.Type' :: iI v4.2.f.Channel :: iS v4.2.f.Ext :: .p (.slice 4 (Q0.rows v4.2.f.Values)) :: []) :: .dead :: .cells (Xj (cI .u8) l23) :: [] : List AObj)) (fun n0 ⟨s22, l23⟩ => Wx N f l v4 n0 s22 l23) (0, v4.2.buffer.b) h (rho [0, 1, 2, 3, 3]) ⟨(rW <| rA <| rE rfl <| rW <| rA <| rE rfl <| rX <| rV <| rW <| rE rfl <| rE rfl <| rE rfl <| rX <| rX <| rW <| rA <| rN), (hE rfl <| hE rfl <| hE rfl <| hD <| hO rfl <| hN), rfl, rfl, (roE rfl <| roE rfl <| roE rfl <| roE rfl <| roE (Q9 _ _ _) <| roN)⟩ fun n0 ⟨s22, l23⟩ h => ?_
  simp only [Wx] at h
  apply iU h <;> intro h
  ·refine Q0.xR h fun y25 h => ?_
   refine cP h Q97 (.cons q4 p1) fun v27 h => ?_
   refine Gs k70 ?_
   refine Qbz (b := v27.1) ?_
   apply iU h <;> intro h
   ·show Exists _
    exact ⟨(n0, (IntKind.wrap .i64 (s22 + 1)), l23), h, Nat.lt_succ_self _, (fun i => i), ⟨(rW <| rA <| rE rfl <| rW <| rA <| rE rfl <| rX <| rV <| rW <| rE rfl <| rE rfl <| rE rfl <| rX <| rX <| rW <| rA <| rN), (hE rfl <| hE rfl <| hE rfl <| hD <| hO rfl <| hN), rfl, rfl, (roE rfl <| roE rfl <| roE rfl <| roE rfl <| roE (Q9 _ _ _) <| roN)⟩⟩
   ·obtain ⟨hk30, h⟩ := Q38 h
    refine Q2a (X6 (c := (cI .u8)) (e := 1) (l := l23) (fun _ => rfl) (by simp) hk30) ?_
    refine Vt (c := (cI .u8)) (l := l23) (v27.1.map fun b => (b.toNat : Int)) rfl ?_
    show Exists _
    exact ⟨(n0, (IntKind.wrap .i64 (s22 + 1)), (l23 ++ (v27.1.map fun b => (b.toNat : Int)))), h, Nat.lt_succ_self _, (rho [0, 1, 2, 3, 6]), ⟨(rW <| rA <| rE rfl <| rW <| rA <| rE rfl <| rX <| rV <| rW <| rE rfl <| rE rfl <| rE rfl <| rX <| rX <| rW <| rA <| rN), (hE rfl <| hE rfl <| hC rfl (rL (by simp) rfl <| rE rfl <| rE rfl <| rE rfl <| rE rfl <| rN) <| hD <| hO rfl <| hN), rfl, rfl, (roE rfl <| roE rfl <| roE rfl <| roE rfl <| roE (Q9 _ _ _) <| roN)⟩⟩
  ·refine cG h Q4m fun v31 h => ?_
   refine ⟨rho [2, 4], (.cells (iI f.Type' :: iI f.Channel :: iS f.Ext :: .p (.slice 4 (Q0.rows f.Values)) :: []) :: .cells (iI l.MaxPacket :: iI l.MaxDepth :: []) :: .cells (.slice 1 5 0 v31.2.buffer.b.length :: iI v31.2.f.Type' :: iI v31.2.f.Channel :: iS v31.2.f.Ext :: .p (.slice 4 (Q0.rows v31.2.f.Values)) :: []) :: .dead :: .dead :: .cells (Xj (cI .u8) v31.2.buffer.b) :: []), .tuple [], ⟨(rE rfl <| rN), (hE rfl <| hO rfl <| hN), rfl, rfl, (roE rfl <| roE (Q9 _ _ _) <| roN), rfl, (fK rfl rfl <| fK rfl rfl <| fR 0 rfl rfl rfl rfl <| fD <| fD <| fO 2 rfl rfl rfl <| fN), rfl⟩, ?_⟩
   refine Qpz (l := v31.2.buffer.b) (by simp) ?_
   obtain rfl := Q8 h; exact u2
def Q0x (_N : Nat) : Option (Qw) :=
 some (⟨4096, 6⟩ : Qw)
theorem Q6q {N} {r} (h : Q0x N = some r) : Z0 Tryz.prog G1 36 [] (.agg (Qw.cells r)) := by
 refine Q3 k36 ?_
 unfold Q0x at h
 obtain rfl := Q8 h; exact q2
def Uf (N : Nat) : Option (Bool) :=
 (Q0x N).bind fun v1 =>
 (Jw N (⟨0, 1, [], []⟩ : Qf) v1).bind fun v3 =>
 cond (Q5 .eql v3.2 0)
 (some (Q3q .eql v3.1 [0, 0, 0, 8, 2, 0, 0, 1]))
 (some false)
theorem Q5c {N} {r} (h : Uf N = some r) : Z0 Tryz.prog G1 24 [] (.bool r) := by
 refine Q3 k24 ?_
 unfold Uf at h
 refine cP h Q6q p0 fun v1 h => ?_
 refine cP h Q3e (.cons q4n p1) fun v3 h => ?_
 apply iU h <;> intro h
 ·cases h; exact (.p _)
 ·cases h; exact (.p _)
def Yi (N : Nat) (f : Qf) : Nat → Int → Option (Bool)
 | 0, _ => none
 | n + 1, i16 =>
  cond (Q5 .lss i16 ((Q0.rows f.Values).length : Int))
  ((idx f.Values i16).bind fun y18 =>
  (V5 N y18).bind fun v20 =>
  cond (!v20)
  (some false)
  (Yi N f n (IntKind.wrap .i64 (i16 + 1))))
  (some true)
def Xe (N : Nat) (f : Qf) : Option (Bool) :=
 cond (Q5 .gtr ((Q0.rows f.Values).length : Int) 6)
 (some false)
 (cond (Q5 .gtr (f.Ext.length : Int) 1100)
 (some false)
 (Yi N f N 0))
theorem Q0c {N} {f} {r} (h : Xe N f = some r) : Z0 Tryz.prog G1 25 [.agg (Qf.cells f)] (.bool r) := by
 refine Q3 k25 ?_
 unfold Xe at h
 apply iU h <;> intro h
 ·cases h; exact (.p _)
 ·apply iU h <;> intro h
  ·cases h; exact (.p _)
  ·refine lpC (τ := Int) (fun i16 => (.any :: .ptr 0 0 :: .any :: iI i16 :: a16 (a8 ([])) : List AV)) (fun _ => (.cells (iI f.Type' :: iI f.Channel :: iS f.Ext :: .p (.slice 4 (Q0.rows f.Values)) :: []) :: [] : List AObj)) (fun n0 i16 => Yi N f n0 i16) (0) h (fun i => i) ⟨(rA <| rE rfl <| rA <| rE rfl <| rX <| rX <| rX <| rN), (hE rfl <| hN), rfl, rfl, (roE rfl <| roN)⟩ fun n0 i16 h => ?_
   simp only [Yi] at h
   apply iU h <;> intro h
   ·refine Q0.xR h fun y18 h => ?_
    refine cP h Q3v (.cons q4 .nil) fun v20 h => ?_
    apply iU h <;> intro h
    ·cases h; exact (.p _)
    ·show Exists _
     exact ⟨(n0, (IntKind.wrap .i64 (i16 + 1))), h, Nat.lt_succ_self _, (fun i => i), ⟨(rA <| rE rfl <| rA <| rE rfl <| rX <| rX <| rX <| rN), (hE rfl <| hN), rfl, rfl, (roE rfl <| roN)⟩⟩
   ·cases h; exact (.p _)
end
end
end Go.Av
