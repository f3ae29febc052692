/- Part of the proof of CrossBack: for every input the law returns true; no condition. -/
import Derived.Test.YthdffmbnmkmhlaaGreatDoorLiftTy
import Derived.Test.YthdffmbnmkmhlaaGreatDoorChks
import Derived.Test.YthdffmbnmkmhlaaGreatDoorSeat1
import Derived.Test.YthdffmbnmkmhlaaGreatDoorKn1
import Derived.Test.YthdffmbnmkmhlaaGreatDoorRound
import Derived.Test.YthdffmbnmkmhlaaGreatDoorMans
import Derived.Test.YthdffmbnmkmhlaaGreatDoorAvAbb
import Derived.KernelRfl
import Derived.Shelf.Strings.OnBuilder
import Derived.Test.YthdffmbnmkmhlaaGreatDoorProg
open Go.IntKind (wrap)
namespace Go.Av
noncomputable section
open Go.Proofs
set_option maxRecDepth 100000
set_option maxHeartbeats 4000000
attribute [local irreducible] Jm Vf Q9a Qfp Qvc Qve Qmp
section
abbrev pU := Q2j Tryz.prog G1
abbrev gU := GC Tryz.prog G1
theorem Z0f : pU 4 [] (.bool true) := Qm Que (N := 4000) (d := 60) (by kernel_rfl)

def V1 (ry1 : Q0 → Q0 → Option Bool) (N : Nat) (a : Q0) (b : Q0) : Nat → Int → Option Bool
 | 0, _ => none
 | n + 1, s22 =>
  cond (Q3 .lss s22 ((Q0.rows a.Items).length : Int))
  ((idx a.Items s22).bind fun y24 =>
  (idx b.Items s22).bind fun y26 =>
  (ry1 y24 y26).bind fun v28 =>
  cond (!v28)
  (some false)
  (V1 ry1 N a b n (wrap .i64 (s22 + 1))))
  (some true)
def Q1f (ry1 : Q0 → Q0 → Option Bool) (N : Nat) (a : Q0) (b : Q0) : Option Bool :=
 cond (Q3 .neq a.Kind b.Kind)
 (some false)
 (cond (Q3 .neq a.N' b.N')
 (some false)
 (cond (Q35 .neq a.Text b.Text)
 (some false)
 (cond (Q3 .neq ((Q0.rows a.Items).length : Int) ((Q0.rows b.Items).length : Int))
 (some false)
 (V1 ry1 N a b N 0))))
theorem Q9r {ry1 : Q0 → Q0 → Option Bool} (hx3 : ∀ {a} {b} {r}, ry1 a b = some r → pU 64 [.agg (Q0.cells a), .agg (Q0.cells b)] (.bool r)) {N} {a} {b} {r} (h : Q1f ry1 N a b = some r) : pU 64 [.agg (Q0.cells a), .agg (Q0.cells b)] (.bool r) := by
 refine Q2 k64 ?_;unfold Q1f at h;rw [cX, cY] at h;refine iL h fun h => ?_;refine iL h fun h => ?_;refine iL h fun h => ?_;refine iL h fun h => ?_;refine lpH (τ := Int) (fun s22 => (.any :: .any :: .ptr 0 0 :: .ptr 1 0 :: a16 (a16 (iI ((Q0.rows a.Items).length : Int) :: iI s22 :: a8 (a4 (a2 (.any :: []))))) : List AV)) (fun n0 s22 => V1 ry1 N a b n0 s22) (0) h fun n0 s22 h => ?_
 first | rw [V1] at h | simp only [V1] at h
 rw [cX] at h;refine iR h fun h => ?_;refine Qb ?_;refine Q0.xR h fun y24 h => ?_;refine Q0.xR h fun y26 h => ?_;refine cD h hx3 (.cons q4 (.cons q4 .nil)) fun v28 h => ?_;refine iL h fun h => ?_;show Exists _;exact ⟨(n0, (wrap .i64 (s22 + 1))), h, Lg _, (fun i => i), X2⟩
def J2 : Nat → Q0 → Q0 → Option Bool
 | 0 => fun _ _ => none
 | N + 1 => Q1f (J2 N) N
theorem Qao {N} {a} {b} {r} (h : J2 N a b = some r) : pU 64 [.agg (Q0.cells a), .agg (Q0.cells b)] (.bool r) := by
 induction N generalizing a b r with
 | zero => simp [J2] at h
 | succ N ih => exact Q9r (fun h => ih h) h
def X3 (N : Nat) (a : Q7) (b : Q7) : Nat → Int → Option Bool
 | 0, _ => none
 | n + 1, s22 =>
  cond (Q3 .lss s22 ((Q0.rows a.Values).length : Int))
  ((idx a.Values s22).bind fun y24 =>
  (idx b.Values s22).bind fun y26 =>
  (J2 N y24 y26).bind fun v28 =>
  cond (!v28)
  (some false)
  (X3 N a b n (wrap .i64 (s22 + 1))))
  (some true)
def Yf (N : Nat) (a : Q7) (b : Q7) : Option Bool :=
 cond (Q3 .neq a.Type' b.Type')
 (some false)
 (cond (Q3 .neq a.Channel b.Channel)
 (some false)
 (cond (Q35 .neq a.Ext b.Ext)
 (some false)
 (cond (Q3 .neq ((Q0.rows a.Values).length : Int) ((Q0.rows b.Values).length : Int))
 (some false)
 (X3 N a b N 0))))
theorem Gp {N} {a} {b} {r} (h : Yf N a b = some r) : pU 23 [.agg (Q7.cells a), .agg (Q7.cells b)] (.bool r) := by
 refine Q2 k23 ?_;unfold Yf at h;rw [cX, cY] at h;refine iL h fun h => ?_;refine iL h fun h => ?_;refine iL h fun h => ?_;refine iL h fun h => ?_;refine lpH (τ := Int) (fun s22 => (a2 (.any :: .ptr 1 0 :: a16 (a16 (.p (.slice 4 (Q0.rows a.Values)) :: iI ((Q0.rows a.Values).length : Int) :: iI s22 :: a8 (a4 (.any :: []))))) : List AV)) (fun n0 s22 => X3 N a b n0 s22) (0) h fun n0 s22 h => ?_
 first | rw [X3] at h | simp only [X3] at h
 rw [cX] at h;refine iR h fun h => ?_;refine Q0.xR h fun y24 h => ?_;refine Qb ?_;refine Q0.xR h fun y26 h => ?_;refine cD h Qao (.cons q4 (.cons q4 .nil)) fun v28 h => ?_;refine iL h fun h => ?_;show Exists _;exact ⟨(n0, (wrap .i64 (s22 + 1))), h, Lg _, (fun i => i), X2⟩
def Ur (N : Nat) (n_0 : Int) (size : Int) : Nat → Int → (List Int) → Option (List UInt8)
 | 0, _, _ => none
 | n + 1, s14, l15 =>
  cond (Q3 .lss s14 (ifB (decide (16 < size)) 16 size))
  (cond (Q3 .lss s14 8)
  (cond (decide (0 ≤ (wrap .u64 (wrap .i64 (8 * s14))))) ((idx (l15 : List Int) (wrap .i64 ((wrap .i64 ((ifB (decide (16 < size)) 16 size) - 1)) - s14))).bind fun y19 =>
  Ur N n_0 size n (wrap .i64 (s14 + 1)) ((l15 : List Int).set (Int.toNat (wrap .i64 ((wrap .i64 ((ifB (decide (16 < size)) 16 size) - 1)) - s14))) (wrap .u8 (Q5a .u64 n_0 (wrap .u64 (wrap .i64 (8 * s14))))))) none)
  (Ur N n_0 size n (wrap .i64 (s14 + 1)) l15))
  (some (l15.map fun n => UInt8.ofNat n.toNat))
def Q2g (N : Nat) (n_0 : Int) (size : Int) : Option (List UInt8) :=
 cond (Q3 .leq size 0)
 (some [])
 (cond (decide (0 ≤ (ifB (decide (16 < size)) 16 size)) && decide ((ifB (decide (16 < size)) 16 size) ≤ (ifB (decide (16 < size)) 16 size)) && decide ((ifB (decide (16 < size)) 16 size) * 1 ≤ 1099511627776)) (Ur N n_0 size N 0 (List.replicate ((ifB (decide (16 < size)) 16 size) : Int).toNat (0 : Int))) none)
theorem Qfn {N} {n_0} {size} {r} (h : Q2g N n_0 size = some r) : pU 62 [.int .u64 n_0, .int .i64 size] (.str r) := by
 refine Q2 k62 ?_;unfold Q2g at h;rw [cX] at h;refine iL h fun h => ?_;refine kU h fun h => ?_;refine Z5g (c := (cI .u8)) (0 : Int) rfl ?_;refine lpC (τ := Int × (List Int)) (fun ⟨s14, l15⟩ => (iW n_0 :: .p (.int .i64 (ifB (decide (16 < size)) 16 size)) :: a2 (.any :: .slice 1 1 0 l15.length :: a4 (a2 (.any :: .p (.int .i64 (ifB (decide (16 < size)) 16 size)) :: iI s14 :: a16 (a2 (.any :: []))))) : List AV)) (fun ⟨_, l15⟩ => (.dead :: .cells (Q0j (cI .u8) l15) :: [] : List AObj)) (fun n0 ⟨s14, l15⟩ => Ur N n_0 size n0 s14 l15) (0, (List.replicate ((ifB (decide (16 < size)) 16 size) : Int).toNat (0 : Int))) h (rho [0, 0]) X2 fun n0 ⟨s14, l15⟩ h => ?_
 first | rw [Ur] at h | simp only [Ur] at h
 rw [cX] at h;apply iU h <;> intro h
 ·apply iU h <;> intro h
  ·refine kU h fun h => ?_;obtain ⟨y19, hy20, h⟩ := Q0a h;refine Qjc (Qit hy20 sd) ?_;refine Qjc (Qd7 (c := (cI .u8)) (e := 1) (fun _ => rfl) hy20 (off := 0) (by omega) rfl (by decide)) ?_
   refine Qf2 (c := (cI .u8)) (e := 1) (fun _ => rfl) hy20 (wrap .u8 (Q5a .u64 n_0 (wrap .u64 (wrap .i64 (8 * s14))))) (off := 0) (by first | omega | (simp only [Q2n, orI, Z21, Qbo, Q41, Q5a]; omega)) rfl (by simp) ?_
   show Exists _;exact ⟨(n0, (wrap .i64 (s14 + 1)), ((l15 : List Int).set (Int.toNat (wrap .i64 ((wrap .i64 ((ifB (decide (16 < size)) 16 size) - 1)) - s14))) (wrap .u8 (Q5a .u64 n_0 (wrap .u64 (wrap .i64 (8 * s14))))))), h, Lg _, (fun i => i), X2⟩
  show Exists _;exact ⟨(n0, (wrap .i64 (s14 + 1)), l15), h, Lg _, (fun i => i), X2⟩
 refine Qyr (l := l15) (n := l15.length) sd ?_;cases h; exact (.p _)
def Q05 (_N : Nat) (s_0 : List UInt8) : Option Bool :=
 cond (Q3 .geq (s_0.length : Int) 3)
 (cond (Nat.ble 0 3 && Nat.ble 3 s_0.length) (some (Q35 .eql ((s_0.take 3).drop 0) [239, 191, 189])) none)
 (some false)
theorem Qa5 {N} {s_0} {r} (h : Q05 N s_0 = some r) : pU 192 [.str s_0] (.bool r) := by
 refine Q2 Zf1 ?_;unfold Q05 at h;rw [cX, cY] at h;refine iR h fun h => ?_;refine kU h fun h => ?_;cases h; exact (.p _)
def V7 (N : Nat) (s_0 : List UInt8) : Nat → Nat → Option Int
 | 0, _ => none
 | n + 1, pos16 =>
  cond (Nat.blt pos16 s_0.length)
  (cond (Q3 .eql (((Qca s_0 pos16).1 : Nat) : Int) 0)
  (some ((pos16 : Nat) : Int))
  (cond (Q3 .eql (((Qca s_0 pos16).1 : Nat) : Int) 65533)
  (cond (Nat.ble pos16 s_0.length && Nat.ble s_0.length s_0.length) ((Q05 N ((s_0.take s_0.length).drop pos16)).bind fun v21 =>
  cond (!v21)
  (some ((pos16 : Nat) : Int))
  (V7 N s_0 n (pos16 + (Qca s_0 pos16).2))) none)
  (V7 N s_0 n (pos16 + (Qca s_0 pos16).2))))
  (some (-1))
def Q39 (N : Nat) (s_0 : List UInt8) : Option Int :=
 V7 N s_0 N 0
theorem Qcv {N} {s_0} {r} (h : Q39 N s_0 = some r) : pU 150 [.str s_0] (.int .i64 r) := by
 refine Q2 Zcq ?_;unfold Q39 at h;refine lpA (τ := Nat) (fun _ => (iS s_0 :: a4 (.any :: .ptr 0 0 :: a16 (a2 ([]))) : List AV)) (fun pos16 => (.strIter s_0 pos16 :: [] : List AObj)) (fun n0 pos16 => V7 N s_0 n0 pos16) (0) h fun n0 pos16 h => ?_
 first | rw [V7] at h | simp only [V7] at h
 rw [cX] at h;refine iR h fun h => ?_;refine iL h fun h => ?_;apply iU h <;> intro h
 ·refine kU h fun h => ?_;refine cP h Qa5 p1 fun v21 h => ?_;refine iL h fun h => ?_;show Exists _;exact ⟨(n0, (pos16 + (Qca s_0 pos16).2)), h, Lg _, (fun i => i), X2⟩
 show Exists _;exact ⟨(n0, (pos16 + (Qca s_0 pos16).2)), h, Lg _, (fun i => i), X2⟩
def Q1z (N : Nat) (s_0 : List UInt8) : Option Bool :=
 cond (Q3 .leq (s_0.length : Int) 65535)
 ((Q39 N s_0).bind fun v2 =>
 some (Q3 .eql v2 (-1)))
 (some false)
theorem Qax {N} {s_0} {r} (h : Q1z N s_0 = some r) : pU 114 [.str s_0] (.bool r) := by
 refine Q2 Z6g ?_;unfold Q1z at h;rw [cX] at h;refine iR h fun h => ?_;refine cP h Qcv p1 fun v2 h => ?_;cases h; exact (.p _)
def Q4f (N : Nat) (s_0 : List UInt8) : Option Bool :=
 cond (Q35 .neq s_0 [])
 ((Q1z N s_0).bind fun v2 =>
 some v2)
 (some false)
theorem Qez {N} {s_0} {r} (h : Q4f N s_0 = some r) : pU 88 [.str s_0] (.bool r) := by
 refine Q2 k88 ?_;unfold Q4f at h;rw [cY] at h;refine iR h fun h => ?_;refine cP h Qax p1 fun v2 h => ?_;cases h; exact (.p _)
def Ux (_N : Nat) (bufLen : Int) : Option Bool :=
 some (Q3 .gtr bufLen 8)
theorem Q2p {N} {bufLen} {r} (h : Ux N bufLen = some r) : pU 152 [.int .i64 bufLen] (.bool r) := by
 refine Q2 Za1 ?_;unfold Ux at h;rw [cX] at h;cases h; exact (.p _)
def X9 (_N : Nat) (s_0 : List UInt8) (c : Int) : Option Int :=
 some (Qmy s_0 (UInt8.ofNat (Int.toNat c)) 0 : Int)
theorem Q0y {N} {s_0} {c} {r} (h : X9 N s_0 c = some r) : pU 222 [.str s_0, .int .u8 c] (.int .i64 r) := by
 refine Q2 Z5q ?_;unfold X9 at h;cases h; exact (.p _)
def Ga (N : Nat) (s_0 : List UInt8) (c : Int) : Option Int :=
 (X9 N s_0 c).bind fun v1 =>
 some v1
theorem Q28 {N} {s_0} {c} {r} (h : Ga N s_0 c = some r) : pU 193 [.str s_0, .int .u8 c] (.int .i64 r) := by
 refine Q2 Z6c ?_;unfold Ga at h;refine cP h Q0y p2 fun v1 h => ?_;cases h; exact (.p _)
def Yl (_N : Nat) (r_0 : Int) : Option Bool :=
 cond (Q3 .leq 0 r_0)
 (cond (Q3 .lss r_0 55296)
 (some true)
 (cond (Q3 .lss 57343 r_0)
 (cond (Q3 .leq r_0 1114111)
 (some true)
 (some false))
 (some false)))
 (cond (Q3 .lss 57343 r_0)
 (cond (Q3 .leq r_0 1114111)
 (some true)
 (some false))
 (some false))
theorem Gv {N} {r_0} {r} (h : Yl N r_0 = some r) : pU 172 [.int .i32 r_0] (.bool r) := by
 refine Q2 Z9a ?_;unfold Yl at h;rw [cX] at h;apply iU h <;> intro h
 ·refine iL h fun h => ?_;refine iR h fun h => ?_;exact iB h
 refine iR h fun h => ?_;exact iB h
def Zl (N : Nat) (s_0 : List UInt8) : Nat → Nat → Option Int
 | 0, _ => none
 | n + 1, pos13 =>
  cond (Nat.blt pos13 s_0.length)
  (cond (Q3 .eql (((Qca s_0 pos13).1 : Nat) : Int) 65533)
  (some ((pos13 : Nat) : Int))
  (Zl N s_0 n (pos13 + (Qca s_0 pos13).2)))
  (some (-1))
def Vh (N : Nat) (s_0 : List UInt8) (r_1 : Int) (v82 : Int) : Nat → Int → Option Int
 | 0, _ => none
 | n + 1, j98 =>
  cond (Q3 .lss j98 (((Utf8.encode r_1).data.toList).length : Int))
  ((idx s_0 (wrap .i64 ((wrap .i64 ((wrap .i64 ((((Utf8.encode r_1).data.toList).length : Int) - 1)) + (wrap .i64 (v82 + 1)))) - j98))).bind fun b100 =>
  (idx ((Utf8.encode r_1).data.toList) (wrap .i64 ((wrap .i64 ((((Utf8.encode r_1).data.toList).length : Int) - 1)) - j98))).bind fun b102 =>
  cond (Q3 .neq (b100.toNat : Int) (b102.toNat : Int))
  (none)
  (Vh N s_0 r_1 v82 n (wrap .i64 (j98 + 1))))
  (some (wrap .i64 ((wrap .i64 ((wrap .i64 ((((Utf8.encode r_1).data.toList).length : Int) - 1)) + (wrap .i64 (v82 + 1)))) - (wrap .i64 ((((Utf8.encode r_1).data.toList).length : Int) - 1)))))
def Vb (N : Nat) (s_0 : List UInt8) (r_1 : Int) : Nat → Int → Option Int
 | 0, _ => none
 | n + 1, j118 =>
  cond (Q3 .lss j118 (((Utf8.encode r_1).data.toList).length : Int))
  ((idx s_0 (wrap .i64 ((wrap .i64 ((((Utf8.encode r_1).data.toList).length : Int) - 1)) - j118))).bind fun b120 =>
  (idx ((Utf8.encode r_1).data.toList) (wrap .i64 ((wrap .i64 ((((Utf8.encode r_1).data.toList).length : Int) - 1)) - j118))).bind fun b122 =>
  cond (Q3 .neq (b120.toNat : Int) (b122.toNat : Int))
  (none)
  (Vb N s_0 r_1 n (wrap .i64 (j118 + 1))))
  (some (wrap .i64 ((wrap .i64 ((((Utf8.encode r_1).data.toList).length : Int) - 1)) - (wrap .i64 ((((Utf8.encode r_1).data.toList).length : Int) - 1)))))
def W5 (N : Nat) (s_0 : List UInt8) (r_1 : Int) : Nat → Option Int
 | 0 => none
 | n + 1 =>
  cond (Q3 .lss (wrap .i64 ((((Utf8.encode r_1).data.toList).length : Int) - 1)) (s_0.length : Int))
  ((idx s_0 (wrap .i64 ((((Utf8.encode r_1).data.toList).length : Int) - 1))).bind fun b73 =>
  (idx ((Utf8.encode r_1).data.toList) (wrap .i64 ((((Utf8.encode r_1).data.toList).length : Int) - 1))).bind fun b75 =>
  cond (Q3 .neq (b73.toNat : Int) (b75.toNat : Int))
  (cond (decide (0 ≤ (wrap .i64 ((wrap .i64 ((((Utf8.encode r_1).data.toList).length : Int) - 1)) + 1)))) (cond (Nat.ble (wrap .i64 ((wrap .i64 ((((Utf8.encode r_1).data.toList).length : Int) - 1)) + 1)).toNat s_0.length && Nat.ble s_0.length s_0.length) ((idx ((Utf8.encode r_1).data.toList) (wrap .i64 ((((Utf8.encode r_1).data.toList).length : Int) - 1))).bind fun b80 =>
  (Ga N ((s_0.take s_0.length).drop ((wrap .i64 ((wrap .i64 ((((Utf8.encode r_1).data.toList).length : Int) - 1)) + 1)).toNat)) (b80.toNat : Int)).bind fun v82 =>
  cond (Q3 .lss v82 0)
  (some (-1))
  (Vh N s_0 r_1 v82 N 1)) none) none)
  (Vb N s_0 r_1 N 1))
  (some (-1))
def Ve (N : Nat) (s_0 : List UInt8) (r_1 : Int) (s2 : Bool) : Option Int :=
 cond s2
 ((Ga N s_0 (wrap .u8 r_1)).bind fun v5 =>
 some v5)
 (cond (Q3 .eql r_1 65533)
 (Zl N s_0 N 0)
 ((Yl N r_1).bind fun v16 =>
 cond (!v16)
 (some (-1))
 (W5 N s_0 r_1 N)))
def G8 (N : Nat) (s_0 : List UInt8) (r_1 : Int) : Option Int :=
 cond (Q3 .leq 0 r_1)
 (Ve N s_0 r_1 (Q3 .lss r_1 128))
 (Ve N s_0 r_1 false)
theorem Q71 {N} {s_0} {r_1} {r} (h : G8 N s_0 r_1 = some r) : pU 151 [.str s_0, .int .i32 r_1] (.int .i64 r) := by
 refine Q2 Ze9 ?_;unfold G8 at h;rw [cX] at h;refine jrH (r := r) (σ := Bool) (fun s2 => (iS s_0 :: .p (.int .i32 r_1) :: a16 (a16 (a16 (a16 (a16 (a16 (a16 (a16 (a16 (a8 (a4 (a2 (.p (.bool s2) :: a16 (a8 (a2 ([]))))))))))))))) : List AV)) (fun s2 => Ve N s_0 r_1 s2) ?_ ?_
 ·apply iU h <;> intro h
  ·show Exists _;exact ⟨((Qvd .lss r_1 128)), h, (fun i => i), X2⟩
  show Exists _;exact ⟨(false), h, (fun i => i), X2⟩
 rintro s2 h
 unfold Ve at h;rw [cX] at h;apply iU h <;> intro h
 ·refine cP h Q28 p2 fun v5 h => ?_;cases h; exact (.p _)
 apply iU h <;> intro h
 ·refine lpA (τ := Nat) (fun _ => (a16 (a16 (a16 (a16 (a16 (a16 (a16 (a16 (a16 (a16 (a8 (a4 (a2 (.any :: .ptr 0 0 :: a8 (a2 (.any :: []))))))))))))))) : List AV)) (fun pos13 => (.strIter s_0 pos13 :: [] : List AObj)) (fun n1 pos13 => Zl N s_0 n1 pos13) (0) h fun n1 pos13 h => ?_
  first | rw [Zl] at h | simp only [Zl] at h
  rw [cX] at h;refine iR h fun h => ?_;refine iL h fun h => ?_;show Exists _;exact ⟨(n1, (pos13 + (Qca s_0 pos13).2)), h, Lg _, (fun i => i), X2⟩
 refine cP h Gv p1 fun v16 h => ?_;refine iL h fun h => ?_;refine lpH (τ := Unit) (fun _ => (iS s_0 :: a4 (a2 (iS ((Utf8.encode r_1).data.toList) :: .p (.int .i64 (wrap .i64 ((((Utf8.encode r_1).data.toList).length : Int) - 1))) :: .p (.int .i64 (wrap .i64 ((((Utf8.encode r_1).data.toList).length : Int) - 1))) :: a16 (a16 (a16 (a16 (a16 (a16 (a16 (a16 (a16 (a16 (a16 (.any :: []))))))))))))) : List AV)) (fun n2 ⟨⟩ => W5 N s_0 r_1 n2) () h fun n2 ⟨⟩ h => ?_
 first | rw [W5] at h | simp only [W5] at h
 rw [cX] at h;refine iR h fun h => ?_;refine Qb ?_;refine xB h fun b73 h => ?_;refine xB h fun b75 h => ?_;apply iU h <;> intro h
 ·refine Qb ?_;refine kU h fun h => ?_;refine kU h fun h => ?_;refine xB h fun b80 h => ?_;refine cD h Q28 p2 fun v82 h => ?_;refine iL h fun h => ?_;refine lpH (τ := Int) (fun j98 => (iS s_0 :: a4 (a2 (iS ((Utf8.encode r_1).data.toList) :: .p (.int .i64 (wrap .i64 ((((Utf8.encode r_1).data.toList).length : Int) - 1))) :: .p (.int .i64 (wrap .i64 ((wrap .i64 ((((Utf8.encode r_1).data.toList).length : Int) - 1)) + (wrap .i64 (v82 + 1))))) :: .any :: .any :: iI j98 :: a16 (a16 (a16 (a16 (a16 (a16 (a16 (a16 (a16 (a16 (a8 (a4 (a2 ([]))))))))))))))) : List AV)) (fun n3 j98 => Vh N s_0 r_1 v82 n3 j98) (1) h fun n3 j98 h => ?_
  first | rw [Vh] at h | simp only [Vh] at h
  rw [cX] at h;refine iR h fun h => ?_;refine Qb ?_;refine xB h fun b100 h => ?_;refine xB h fun b102 h => ?_;apply iU h <;> intro h
  ·first | (cases h; done) | (simp [Q7f] at h; done)
  show Exists _;exact ⟨(n3, (wrap .i64 (j98 + 1))), h, Lg _, (fun i => i), X2⟩
 refine lpH (τ := Int) (fun j118 => (iS s_0 :: a4 (a2 (iS ((Utf8.encode r_1).data.toList) :: .p (.int .i64 (wrap .i64 ((((Utf8.encode r_1).data.toList).length : Int) - 1))) :: .p (.int .i64 (wrap .i64 ((((Utf8.encode r_1).data.toList).length : Int) - 1))) :: .any :: .any :: iI j118 :: a16 (a16 (a16 (a16 (a16 (a16 (a16 (a16 (a16 (a16 (a8 (a4 (a2 ([]))))))))))))))) : List AV)) (fun n4 j118 => Vb N s_0 r_1 n4 j118) (1) h fun n4 j118 h => ?_
 first | rw [Vb] at h | simp only [Vb] at h
 rw [cX] at h;refine iR h fun h => ?_;refine Qb ?_;refine xB h fun b120 h => ?_;refine xB h fun b122 h => ?_;apply iU h <;> intro h
 ·first | (cases h; done) | (simp [Q7f] at h; done)
 show Exists _;exact ⟨(n4, (wrap .i64 (j118 + 1))), h, Lg _, (fun i => i), X2⟩
def X8 (N : Nat) (s_0 : List UInt8) : Nat → Int → Option Int
 | 0, _ => none
 | n + 1, i20 =>
  cond (Q3 .lss i20 (s_0.length : Int))
  ((idx s_0 i20).bind fun b22 =>
  cond (decide (0 ≤ (b22.toNat : Int)) && decide ((b22.toNat : Int) < ((256 : Nat) : Int))) ((idx ([false, false, false, false, false, false, false, false, false, false, false, false, false, false, false, false, false, false, false, false, false, false, false, false, false, false, false, false, false, false, false, false, false, false, false, true, false, false, false, false, false, false, false, true, false, false, false, false, false, false, false, false, false, false, false, false, false, false, false, false, false, false, false, false, false, false, false, false, false, false, false, false, false, false, false, false, false, false, false, false, false, false, false, false, false, false, false, false, false, false, false, false, false, false, false, false, false, false, false, false, false, false, false, false, false, false, false, false, false, false, false, false, false, false, false, false, false, false, false, false, false, false, false, false, false, false, false, false, false, false, false, false, false, false, false, false, false, false, false, false, false, false, false, false, false, false, false, false, false, false, false, false, false, false, false, false, false, false, false, false, false, false, false, false, false, false, false, false, false, false, false, false, false, false, false, false, false, false, false, false, false, false, false, false, false, false, false, false, false, false, false, false, false, false, false, false, false, false, false, false, false, false, false, false, false, false, false, false, false, false, false, false, false, false, false, false, false, false, false, false, false, false, false, false, false, false, false, false, false, false, false, false, false, false, false, false, false, false, false, false, false, false, false, false, false, false, false, false, false, false, false, false, false, false, false, false] : List Bool) (b22.toNat : Int)).bind fun y24 =>
  cond y24
  (some i20)
  (X8 N s_0 n (wrap .i64 (i20 + 1)))) none)
  (some (-1))
def X7 (N : Nat) (s_0 : List UInt8) : Nat → Nat → Option Int
 | 0, _ => none
 | n + 1, pos37 =>
  cond (Nat.blt pos37 s_0.length)
  ((G8 N [43, 35] (((Qca s_0 pos37).1 : Nat) : Int)).bind fun v39 =>
  cond (Q3 .geq v39 0)
  (some ((pos37 : Nat) : Int))
  (X7 N s_0 n (pos37 + (Qca s_0 pos37).2)))
  (some (-1))
def J8 (N : Nat) (s_0 : List UInt8) : Option Int :=
 cond (Q35 .eql [43, 35] [])
 (some (-1))
 ((Ux N (s_0.length : Int)).bind fun v2 =>
 cond v2
 (X8 N s_0 N 0)
 (X7 N s_0 N 0))
theorem Q59 {N} {s_0} {r} (h : J8 N s_0 = some r) : pU 115 [.str s_0, .str [43, 35]] (.int .i64 r) := by
 refine Q2 Za6 ?_;unfold J8 at h;rw [cY] at h;refine iL h fun h => ?_;refine dF ?_;refine cP h Q2p p1 fun v2 h => ?_;apply iU h <;> intro h
 ·refine Gn Z7u ?_;refine Qep 4 ?_;refine dT ?_;refine dF ?_;refine dT ?_;refine dF ?_;refine dF ?_;refine lpH (τ := Int) (fun i20 => (iS s_0 :: a4 (.any :: .ptr 1 0 :: .any :: iI i20 :: a16 (a16 (a8 (a4 (a2 ([])))))) : List AV)) (fun n0 i20 => X8 N s_0 n0 i20) (0) h fun n0 i20 h => ?_
  first | rw [X8] at h | simp only [X8] at h
  rw [cX] at h;refine iR h fun h => ?_;refine xB h fun b22 h => ?_;refine Gn Z6w ?_;refine kU h fun h => ?_;obtain ⟨y24, hy25, h⟩ := Q0a h
  refine Q3m (c := cB) (e := 1) (fun _ => rfl) hy25 (off := 0) (by decide) (by first | omega | (simp only [Q2n, orI, Z21, Qbo, Q41, Q5a]; omega)) ?_
  refine iL h fun h => ?_;show Exists _;exact ⟨(n0, (wrap .i64 (i20 + 1))), h, Lg _, (fun i => i), X2⟩
 refine lpA (τ := Nat) (fun _ => (.any :: .p (.str [43, 35]) :: a16 (a16 (a8 (a2 (.any :: .ptr 0 0 :: a8 (.any :: []))))) : List AV)) (fun pos37 => (.strIter s_0 pos37 :: [] : List AObj)) (fun n1 pos37 => X7 N s_0 n1 pos37) (0) h fun n1 pos37 h => ?_
 first | rw [X7] at h | simp only [X7] at h
 rw [cX] at h;refine iR h fun h => ?_;refine cP h Q71 p2 fun v39 h => ?_;refine iL h fun h => ?_;show Exists _;exact ⟨(n1, (pos37 + (Qca s_0 pos37).2)), h, Lg _, (fun i => i), X2⟩
def Vx (N : Nat) (s_0 : List UInt8) : Option Bool :=
 (J8 N s_0).bind fun v1 =>
 some (Q3 .geq v1 0)
theorem Q40 {N} {s_0} {r} (h : Vx N s_0 = some r) : pU 89 [.str s_0, .str [43, 35]] (.bool r) := by
 refine Q2 k89 ?_;unfold Vx at h;rw [cX] at h;refine cP h Q59 p2 fun v1 h => ?_;cases h; exact (.p _)
def Q4e (N : Nat) (s_0 : List UInt8) : Option Bool :=
 (Q4f N s_0).bind fun v1 =>
 cond v1
 ((Vx N s_0).bind fun v4 =>
 some (!v4))
 (some false)
theorem Qd9 {N} {s_0} {r} (h : Q4e N s_0 = some r) : pU 44 [.str s_0] (.bool r) := by
 refine Q2 k44 ?_;unfold Q4e at h;refine cP h Qez p1 fun v1 h => ?_;refine iR h fun h => ?_;refine cP h Q40 p2 fun v4 h => ?_;cases h; exact (.p _)
def Gg (N : Nat) (a : List Zz) (b : List Zz) : Nat → Int → Option Bool
 | 0, _ => none
 | n + 1, s15 =>
  cond (Q3 .lss s15 ((Qd Zz.cells a).length : Int))
  ((idx a s15).bind fun y17 =>
  (idx b s15).bind fun y19 =>
  cond (!(((y17.ID : Int) == y19.ID) && (((y17.N' : Int) == y19.N') && (((y17.Text : List UInt8) == y19.Text) && (((y17.Value : List UInt8) == y19.Value) && true)))))
  (some false)
  (Gg N a b n (wrap .i64 (s15 + 1))))
  (some true)
def Q3p (N : Nat) (a : List Zz) (b : List Zz) : Option Bool :=
 cond (Q3 .neq ((Qd Zz.cells a).length : Int) ((Qd Zz.cells b).length : Int))
 (some false)
 (Gg N a b N 0)
theorem Qfs {N} {a} {b} {r} (h : Q3p N a b = some r) : pU 147 [.slice 4 (Qd Zz.cells a), .slice 4 (Qd Zz.cells b)] (.bool r) := by
 refine Q2 Zei ?_;unfold Q3p at h;rw [cX] at h;refine iL h fun h => ?_;refine lpH (τ := Int) (fun s15 => (.p (.slice 4 (Qd Zz.cells a)) :: .p (.slice 4 (Qd Zz.cells b)) :: a8 (a2 (iI ((Qd Zz.cells a).length : Int) :: iI s15 :: a8 (a4 ([])))) : List AV)) (fun n0 s15 => Gg N a b n0 s15) (0) h fun n0 s15 h => ?_
 first | rw [Gg] at h | simp only [Gg] at h
 rw [cX] at h;refine iR h fun h => ?_;refine Qb ?_;refine xR h fun y17 h => ?_;refine xR h fun y19 h => ?_;refine iL h fun h => ?_;show Exists _;exact ⟨(n0, (wrap .i64 (s15 + 1))), h, Lg _, (fun i => i), X2⟩
def Z7 (N : Nat) (s1_0 : List Q48) (s2_1 : List Q48) : Nat → Int → Option Bool
 | 0, _ => none
 | n + 1, s15 =>
  cond (Q3 .lss s15 ((Qd Q48.cells s1_0).length : Int))
  ((idx s1_0 s15).bind fun y17 =>
  (idx s2_1 s15).bind fun y19 =>
  cond (!(((y17.Radius : Int) == y19.Radius) && (((y17.Node : List UInt8) == y19.Node) && true)))
  (some false)
  (Z7 N s1_0 s2_1 n (wrap .i64 (s15 + 1))))
  (some true)
def Ym (N : Nat) (s1_0 : List Q48) (s2_1 : List Q48) : Option Bool :=
 cond (Q3 .neq ((Qd Q48.cells s1_0).length : Int) ((Qd Q48.cells s2_1).length : Int))
 (some false)
 (Z7 N s1_0 s2_1 N 0)
theorem Q24 {N} {s1_0} {s2_1} {r} (h : Ym N s1_0 s2_1 = some r) : pU 148 [.slice 2 (Qd Q48.cells s1_0), .slice 2 (Qd Q48.cells s2_1)] (.bool r) := by
 refine Q2 Zge ?_;unfold Ym at h;rw [cX] at h;refine iL h fun h => ?_;refine lpH (τ := Int) (fun s15 => (.p (.slice 2 (Qd Q48.cells s1_0)) :: .p (.slice 2 (Qd Q48.cells s2_1)) :: a8 (a2 (iI ((Qd Q48.cells s1_0).length : Int) :: iI s15 :: a8 (a4 ([])))) : List AV)) (fun n0 s15 => Z7 N s1_0 s2_1 n0 s15) (0) h fun n0 s15 h => ?_
 first | rw [Z7] at h | simp only [Z7] at h
 rw [cX] at h;refine iR h fun h => ?_;refine Qb ?_;refine xR h fun y17 h => ?_;refine xR h fun y19 h => ?_;refine iL h fun h => ?_;show Exists _;exact ⟨(n0, (wrap .i64 (s15 + 1))), h, Lg _, (fun i => i), X2⟩
def Q4a (_N : Nat) (p : Zb) : Option (Q5e) :=
 some (⟨p.Kind, p.QoS, p.ID, p.KeepAlive, p.Code, p.Dup, p.Retain, p.Clean, p.HasUser, p.HasPass, p.HasWill, p.Session, p.Topic, p.Payload, p.Client, p.User, p.Pass⟩ : Q5e)
theorem Q7n {N} {p} {r} (h : Q4a N p = some r) : pU 118 [.agg (Zb.cells p)] (.agg (Q5e.cells r)) := by
 refine Q2 Zfv ?_;unfold Q4a at h;obtain rfl := Yg h; exact (Frz.agg' (f8_ (f2_ (f1_ (.cons (.p _) p5)))))
def Gu (_N : Nat) (a : Zz) (b : Zz) : Option Bool :=
 some (((a.ID : Int) == b.ID) && (((a.N' : Int) == b.N') && (((a.Text : List UInt8) == b.Text) && (((a.Value : List UInt8) == b.Value) && true))))
theorem Q56 {N} {a} {b} {r} (h : Gu N a b = some r) : pU 166 [.agg (Zz.cells a), .agg (Zz.cells b)] (.bool r) := by
 refine Q2 Zfj ?_;unfold Gu at h;cases h; exact (.p _)
def Xl (N : Nat) (a : List Zz) (b : List Zz) : Nat → Int → Option Bool
 | 0, _ => none
 | n + 1, s19 =>
  cond (Q3 .lss s19 ((Qd Zz.cells a).length : Int))
  ((idx a s19).bind fun y21 =>
  (idx b s19).bind fun y23 =>
  (Gu N y21 y23).bind fun v25 =>
  cond (!v25)
  (some false)
  (Xl N a b n (wrap .i64 (s19 + 1))))
  (some true)
def V4 (N : Nat) (a : List Zz) (b : List Zz) : Option Bool :=
 cond (Q3 .neq ((Qd Zz.cells a).length : Int) ((Qd Zz.cells b).length : Int))
 (some false)
 (Xl N a b N 0)
theorem Q22 {N} {a} {b} {r} (h : V4 N a b = some r) : pU 122 [.slice 4 (Qd Zz.cells a), .slice 4 (Qd Zz.cells b)] (.bool r) := by
 refine Q2 Zfh ?_;unfold V4 at h;rw [cX] at h;refine Gn Zcd ?_;refine iL h fun h => ?_;refine lpH (τ := Int) (fun s19 => (.any :: .p (.slice 4 (Qd Zz.cells b)) :: .p (.func (.func 166) [] []) :: a8 (a4 (.p (.slice 4 (Qd Zz.cells a)) :: iI ((Qd Zz.cells a).length : Int) :: iI s19 :: a8 (a4 (a2 ([]))))) : List AV)) (fun n0 s19 => Xl N a b n0 s19) (0) h fun n0 s19 h => ?_
 first | rw [Xl] at h | simp only [Xl] at h
 rw [cX] at h;refine iR h fun h => ?_;refine xR h fun y21 h => ?_;refine xR h fun y23 h => ?_;refine cP h Q56 (.cons q4 (.cons q4 .nil)) fun v25 h => ?_;refine iL h fun h => ?_;show Exists _;exact ⟨(n0, (wrap .i64 (s19 + 1))), h, Lg _, (fun i => i), X2⟩
def Q07 (N : Nat) (a : Q0q) (b : Q0q) : Option Bool :=
 cond (Q35 .eql a.Topic b.Topic)
 (cond (Q35 .eql a.Payload b.Payload)
 (cond (Q3 .eql a.QoS b.QoS)
 (cond (a.Retain == b.Retain)
 ((V4 N a.Props b.Props).bind fun v5 =>
 some v5)
 (some false))
 (some false))
 (some false))
 (some false)
theorem Q9q {N} {a} {b} {r} (h : Q07 N a b = some r) : pU 119 [.agg (Q0q.cells a), .agg (Q0q.cells b)] (.bool r) := by
 refine Q2 Zd8 ?_;unfold Q07 at h;rw [cX, cY] at h;refine iR h fun h => ?_;refine iR h fun h => ?_;refine iR h fun h => ?_;refine iR h fun h => ?_;refine cP h Q22 p2 fun v5 h => ?_;cases h; exact (.p _)
def Q2w (_N : Nat) (a : Int) (b : Int) : Option Bool :=
 some (Q3 .eql a b)
theorem Q94 {N} {a} {b} {r} (h : Q2w N a b = some r) : pU 162 [.int .i64 a, .int .i64 b] (.bool r) := by
 refine Q2 Zak ?_;unfold Q2w at h;rw [cX] at h;cases h; exact (.p _)
def U5 (N : Nat) (a : List Int) (b : List Int) : Nat → Int → Option Bool
 | 0, _ => none
 | n + 1, s19 =>
  cond (Q3 .lss s19 ((Qd (cI .i64) a).length : Int))
  ((idx a s19).bind fun y21 =>
  (idx b s19).bind fun y23 =>
  (Q2w N y21 y23).bind fun v25 =>
  cond (!v25)
  (some false)
  (U5 N a b n (wrap .i64 (s19 + 1))))
  (some true)
def Q08 (N : Nat) (a : List Int) (b : List Int) : Option Bool :=
 cond (Q3 .neq ((Qd (cI .i64) a).length : Int) ((Qd (cI .i64) b).length : Int))
 (some false)
 (U5 N a b N 0)
theorem Qb3 {N} {a} {b} {r} (h : Q08 N a b = some r) : pU 120 [.slice 1 (Qd (cI .i64) a), .slice 1 (Qd (cI .i64) b)] (.bool r) := by
 refine Q2 Zgm ?_;unfold Q08 at h;rw [cX] at h;refine Gn Z5t ?_;refine iL h fun h => ?_;refine lpH (τ := Int) (fun s19 => (.any :: .p (.slice 1 (Qd (cI .i64) b)) :: .p (.func (.func 162) [] []) :: a8 (a4 (.p (.slice 1 (Qd (cI .i64) a)) :: .p (.int .i64 ((Qd (cI .i64) a).length : Int)) :: iI s19 :: a8 (a4 (a2 ([]))))) : List AV)) (fun n0 s19 => U5 N a b n0 s19) (0) h fun n0 s19 h => ?_
 first | rw [U5] at h | simp only [U5] at h
 rw [cX] at h;refine iR h fun h => ?_;refine xR h fun y21 h => ?_;refine xR h fun y23 h => ?_;refine cP h Q94 p2 fun v25 h => ?_;refine iL h fun h => ?_;show Exists _;exact ⟨(n0, (wrap .i64 (s19 + 1))), h, Lg _, (fun i => i), X2⟩
def G6 (_N : Nat) (a : Zh) (b : Zh) : Option Bool :=
 some (((a.Topic : List UInt8) == b.Topic) && (((a.QoS : Int) == b.QoS) && (((a.NoLocal : Bool) == b.NoLocal) && (((a.AsPublished : Bool) == b.AsPublished) && (((a.Handling : Int) == b.Handling) && true)))))
theorem Q45 {N} {a} {b} {r} (h : G6 N a b = some r) : pU 164 [.agg (Zh.cells a), .agg (Zh.cells b)] (.bool r) := by
 refine Q2 Z9s ?_;unfold G6 at h;cases h; exact (.p _)
def Yy (N : Nat) (a : List Zh) (b : List Zh) : Nat → Int → Option Bool
 | 0, _ => none
 | n + 1, s19 =>
  cond (Q3 .lss s19 ((Qd Zh.cells a).length : Int))
  ((idx a s19).bind fun y21 =>
  (idx b s19).bind fun y23 =>
  (G6 N y21 y23).bind fun v25 =>
  cond (!v25)
  (some false)
  (Yy N a b n (wrap .i64 (s19 + 1))))
  (some true)
def Vd (N : Nat) (a : List Zh) (b : List Zh) : Option Bool :=
 cond (Q3 .neq ((Qd Zh.cells a).length : Int) ((Qd Zh.cells b).length : Int))
 (some false)
 (Yy N a b N 0)
theorem Q4v {N} {a} {b} {r} (h : Vd N a b = some r) : pU 121 [.slice 5 (Qd Zh.cells a), .slice 5 (Qd Zh.cells b)] (.bool r) := by
 refine Q2 Zdg ?_;unfold Vd at h;rw [cX] at h;refine Gn Zem ?_;refine iL h fun h => ?_;refine lpH (τ := Int) (fun s19 => (.any :: .p (.slice 5 (Qd Zh.cells b)) :: .p (.func (.func 164) [] []) :: a8 (a4 (.p (.slice 5 (Qd Zh.cells a)) :: iI ((Qd Zh.cells a).length : Int) :: iI s19 :: a8 (a4 (a2 ([]))))) : List AV)) (fun n0 s19 => Yy N a b n0 s19) (0) h fun n0 s19 h => ?_
 first | rw [Yy] at h | simp only [Yy] at h
 rw [cX] at h;refine iR h fun h => ?_;refine xR h fun y21 h => ?_;refine xR h fun y23 h => ?_;refine cP h Q45 (.cons (Frz.agg' p5) (.cons (Frz.agg' p5) .nil)) fun v25 h => ?_;refine iL h fun h => ?_;show Exists _;exact ⟨(n0, (wrap .i64 (s19 + 1))), h, Lg _, (fun i => i), X2⟩
def Q2f (N : Nat) (a : Zb) (b : Zb) : Option Bool :=
 (Q4a N a).bind fun v1 =>
 (Q4a N b).bind fun v3 =>
 cond (((v1.kind : Int) == v3.kind) && (((v1.qos : Int) == v3.qos) && (((v1.id : Int) == v3.id) && (((v1.alive : Int) == v3.alive) && (((v1.code : Int) == v3.code) && (((v1.dup : Bool) == v3.dup) && (((v1.retain : Bool) == v3.retain) && (((v1.clean : Bool) == v3.clean) && (((v1.user : Bool) == v3.user) && (((v1.pass : Bool) == v3.pass) && (((v1.will : Bool) == v3.will) && (((v1.again : Bool) == v3.again) && (((v1.topic : List UInt8) == v3.topic) && (((v1.payload : List UInt8) == v3.payload) && (((v1.client : List UInt8) == v3.client) && (((v1.name : List UInt8) == v3.name) && (((v1.word : List UInt8) == v3.word) && true)))))))))))))))))
 ((Q07 N a.Will b.Will).bind fun v6 =>
 cond v6
 ((Q08 N a.Codes b.Codes).bind fun v9 =>
 cond v9
 ((Vd N a.Filters b.Filters).bind fun v12 =>
 cond v12
 ((V4 N a.Props b.Props).bind fun v15 =>
 some v15)
 (some false))
 (some false))
 (some false))
 (some false)
theorem Q8n {N} {a} {b} {r} (h : Q2f N a b = some r) : pU 93 [.agg (Zb.cells a), .agg (Zb.cells b)] (.bool r) := by
 refine Q2 k93 ?_;unfold Q2f at h;refine Qb ?_;obtain ⟨v1, hv2, h⟩ := Q0a h;refine Q2i (Q7n hv2) (.cons (Frz.agg' (Wc (f8_ (.cons (.p _) .nil)))) .nil) ?_;obtain ⟨v3, hv4, h⟩ := Q0a h;refine Q2i (Q7n hv4) (.cons (Frz.agg' (Wc (f8_ (.cons (.p _) .nil)))) .nil) ?_;refine Qnq (ks := [0, 0, 0, 0, 0, 2, 2, 2, 2, 2, 2, 2, 1, 1, 1, 1, 1]) (xs := [.p (.int .i64 v1.kind), .p (.int .i64 v1.qos), .p (.int .i64 v1.id), .p (.int .i64 v1.alive), .p (.int .i64 v1.code), .p (.bool v1.dup), .p (.bool v1.retain), .p (.bool v1.clean), .p (.bool v1.user), .p (.bool v1.pass), .p (.bool v1.will), .p (.bool v1.again), .p (.str v1.topic), .p (.str v1.payload), .p (.str v1.client), .p (.str v1.name), .p (.str v1.word)]) (ys := [.p (.int .i64 v3.kind), .p (.int .i64 v3.qos), .p (.int .i64 v3.id), .p (.int .i64 v3.alive), .p (.int .i64 v3.code), .p (.bool v3.dup), .p (.bool v3.retain), .p (.bool v3.clean), .p (.bool v3.user), .p (.bool v3.pass), .p (.bool v3.will), .p (.bool v3.again), .p (.str v3.topic), .p (.str v3.payload), .p (.str v3.client), .p (.str v3.name), .p (.str v3.word)]) (b := (((v1.kind : Int) == v3.kind) && (((v1.qos : Int) == v3.qos) && (((v1.id : Int) == v3.id) && (((v1.alive : Int) == v3.alive) && (((v1.code : Int) == v3.code) && (((v1.dup : Bool) == v3.dup) && (((v1.retain : Bool) == v3.retain) && (((v1.clean : Bool) == v3.clean) && (((v1.user : Bool) == v3.user) && (((v1.pass : Bool) == v3.pass) && (((v1.will : Bool) == v3.will) && (((v1.again : Bool) == v3.again) && (((v1.topic : List UInt8) == v3.topic) && (((v1.payload : List UInt8) == v3.payload) && (((v1.client : List UInt8) == v3.client) && (((v1.name : List UInt8) == v3.name) && (((v1.word : List UInt8) == v3.word) && true)))))))))))))))))) rfl ?_;refine ifO h (fun hc5 h => ?_) (fun hc5 h => ?_)
 ·obtain ⟨v6, hv7, h⟩ := Q0a h;refine Q2i (Q9q hv7) (.cons (Frz.agg' (f4_ (.cons (.p _) .nil))) (.cons (Frz.agg' (f4_ (.cons (.p _) .nil))) .nil)) ?_;refine ifO h (fun hc8 h => ?_) (fun hc8 h => ?_)
  ·obtain ⟨v9, hv10, h⟩ := Q0a h;refine Q2i (Qb3 hv10) (.cons (.p _) (.cons (.p _) .nil)) ?_;refine ifO h (fun hc11 h => ?_) (fun hc11 h => ?_)
   ·obtain ⟨v12, hv13, h⟩ := Q0a h;refine Q2i (Q4v hv13) (.cons (.p _) (.cons (.p _) .nil)) ?_;refine ifO h (fun hc14 h => ?_) (fun hc14 h => ?_)
    ·obtain ⟨v15, hv16, h⟩ := Q0a h;refine Q2i (Q22 hv16) (.cons (.p _) (.cons (.p _) .nil)) ?_;have hr := Yg h;subst hr;exact (.p _)
    have hr := Yg h;subst hr;exact (.p _)
   have hr := Yg h;subst hr;exact (.p _)
  have hr := Yg h;subst hr;exact (.p _)
 have hr := Yg h;subst hr;exact (.p _)
def G0 (N : Nat) (a : Qj) (b : Qj) : Option Bool :=
 cond (Q3 .neq a.Proto b.Proto)
 (some false)
 (cond (Q3 .neq a.Kind b.Kind)
 (some false)
 (cond (Q35 .neq a.Topic b.Topic)
 (some false)
 (cond (Q35 .neq a.Payload b.Payload)
 (some false)
 (cond (Q3 .neq a.QoS b.QoS)
 (some false)
 (cond (!(a.Retain == b.Retain))
 (some false)
 (cond (!(a.Dup == b.Dup))
 (some false)
 (cond (Q3 .neq a.ID b.ID)
 (some false)
 (cond (Q3 .neq a.Type' b.Type')
 (some false)
 (cond (Q3 .neq a.Channel b.Channel)
 (some false)
 ((Q3p N a.Props b.Props).bind fun v11 =>
 cond v11
 ((Ym N a.Hops b.Hops).bind fun v14 =>
 cond v14
 ((Q2f N a.Packet b.Packet).bind fun v17 =>
 cond v17
 (cond (((a.Msg.Type' : Int) == b.Msg.Type') && (((a.Msg.Flags.Dup : Bool) == b.Msg.Flags.Dup) && (((a.Msg.Flags.QoS : Int) == b.Msg.Flags.QoS) && (((a.Msg.Flags.Retain : Bool) == b.Msg.Flags.Retain) && (((a.Msg.Flags.Will : Bool) == b.Msg.Flags.Will) && (((a.Msg.Flags.Clean : Bool) == b.Msg.Flags.Clean) && (((a.Msg.Flags.Type' : Int) == b.Msg.Flags.Type') && (((a.Msg.Gateway : Int) == b.Msg.Gateway) && (((a.Msg.Radius : Int) == b.Msg.Radius) && (((a.Msg.Time : Int) == b.Msg.Time) && (((a.Msg.Timed : Bool) == b.Msg.Timed) && (((a.Msg.TopicID : Int) == b.Msg.TopicID) && (((a.Msg.MsgID : Int) == b.Msg.MsgID) && (((a.Msg.Code : Int) == b.Msg.Code) && (((a.Msg.Name : List UInt8) == b.Msg.Name) && (((a.Msg.Data : List UInt8) == b.Msg.Data) && true))))))))))))))))
 ((Yf N a.Frame b.Frame).bind fun v21 =>
 some v21)
 (some false))
 (some false))
 (some false))
 (some false)))))))))))
theorem Q1o {N} {a} {b} {r} (h : G0 N a b = some r) : pU 107 [.agg (Qj.cells a), .agg (Qj.cells b)] (.bool r) := by
 refine Q2 Zb0 ?_;unfold G0 at h;rw [cX, cY] at h;refine iL h fun h => ?_;refine iL h fun h => ?_;refine iL h fun h => ?_;refine iL h fun h => ?_;refine iL h fun h => ?_;refine iL h fun h => ?_;refine iL h fun h => ?_;refine iL h fun h => ?_;refine iL h fun h => ?_;refine iL h fun h => ?_;refine cP h Qfs p2 fun v11 h => ?_;refine iR h fun h => ?_;refine cP h Q24 p2 fun v14 h => ?_;refine iR h fun h => ?_;refine cP h Q8n (.cons (Frz.agg' (Wc (f2_ (f1_ (.cons (.p _) p5))))) (.cons (Frz.agg' (Wc (f2_ (f1_ (.cons (.p _) p5))))) .nil)) fun v17 h => ?_;refine iR h fun h => ?_;refine Qnq (ks := [0, 2, 0, 2, 2, 2, 0, 0, 0, 0, 2, 0, 0, 0, 1, 1]) (xs := [iI a.Msg.Type', .p (.bool a.Msg.Flags.Dup), iI a.Msg.Flags.QoS, .p (.bool a.Msg.Flags.Retain), .p (.bool a.Msg.Flags.Will), .p (.bool a.Msg.Flags.Clean), iI a.Msg.Flags.Type', iI a.Msg.Gateway, iI a.Msg.Radius, iI a.Msg.Time, .p (.bool a.Msg.Timed), iI a.Msg.TopicID, iI a.Msg.MsgID, iI a.Msg.Code, iS a.Msg.Name, iS a.Msg.Data]) (ys := [iI b.Msg.Type', .p (.bool b.Msg.Flags.Dup), iI b.Msg.Flags.QoS, .p (.bool b.Msg.Flags.Retain), .p (.bool b.Msg.Flags.Will), .p (.bool b.Msg.Flags.Clean), iI b.Msg.Flags.Type', iI b.Msg.Gateway, iI b.Msg.Radius, iI b.Msg.Time, .p (.bool b.Msg.Timed), iI b.Msg.TopicID, iI b.Msg.MsgID, iI b.Msg.Code, iS b.Msg.Name, iS b.Msg.Data]) (b := (((a.Msg.Type' : Int) == b.Msg.Type') && (((a.Msg.Flags.Dup : Bool) == b.Msg.Flags.Dup) && (((a.Msg.Flags.QoS : Int) == b.Msg.Flags.QoS) && (((a.Msg.Flags.Retain : Bool) == b.Msg.Flags.Retain) && (((a.Msg.Flags.Will : Bool) == b.Msg.Flags.Will) && (((a.Msg.Flags.Clean : Bool) == b.Msg.Flags.Clean) && (((a.Msg.Flags.Type' : Int) == b.Msg.Flags.Type') && (((a.Msg.Gateway : Int) == b.Msg.Gateway) && (((a.Msg.Radius : Int) == b.Msg.Radius) && (((a.Msg.Time : Int) == b.Msg.Time) && (((a.Msg.Timed : Bool) == b.Msg.Timed) && (((a.Msg.TopicID : Int) == b.Msg.TopicID) && (((a.Msg.MsgID : Int) == b.Msg.MsgID) && (((a.Msg.Code : Int) == b.Msg.Code) && (((a.Msg.Name : List UInt8) == b.Msg.Name) && (((a.Msg.Data : List UInt8) == b.Msg.Data) && true))))))))))))))))) rfl ?_;refine iR h fun h => ?_;refine cP h Gp (.cons q4 (.cons q4 .nil)) fun v21 h => ?_;cases h; exact (.p _)
def Q7g (_N : Nat) (n_0 : Int) : Option Bool :=
 cond (Q3 .geq n_0 0)
 (some (Q3 .leq n_0 268435455))
 (some false)
theorem Qdp {N} {n_0} {r} (h : Q7g N n_0 = some r) : pU 171 [.int .i64 n_0] (.bool r) := by
 refine Q2 Z9e ?_;unfold Q7g at h;rw [cX] at h;exact iB h
def Jq (N : Nat) : Nat → Int → (List Int) → Option ((List UInt8) × Int)
 | 0, _, _ => none
 | n + 1, n9, l10 =>
  cond (Q3 .geq n9 128)
  (cond (Nat.ble ((l10.length + 1 + 4096) * 1) 17592186044416) (Jq N n (wrap .i64 ((n9 : Int).tdiv 128)) (l10 ++ [(orI .u8 (wrap .u8 ((n9 : Int).tmod 128)) 128)])) none)
  (cond (Nat.ble ((l10.length + 1 + 4096) * 1) 17592186044416) (some (((l10 ++ [(wrap .u8 n9)]).map fun n => UInt8.ofNat n.toNat), 0)) none)
def Q4t (N : Nat) (n_0 : Int) : Option ((List UInt8) × Int) :=
 (Q7g N n_0).bind fun v1 =>
 cond (!v1)
 (some ([], 2))
 (Jq N N n_0 [])
theorem Qbk {N} {n_0} {r} (h : Q4t N n_0 = some r) : pU 128 [.int .i64 n_0] (.tuple [.str r.1, .int .i64 r.2]) := by
 refine Q2 Zgt ?_;unfold Q4t at h;refine cP h Qdp p1 fun v1 h => ?_;refine iL2 h fun h => ?_;refine lpA (τ := Int × (List Int)) (fun ⟨n9, l10⟩ => (iI n9 :: a2 (.any :: .slice 1 0 0 l10.length :: a16 (a4 ([]))) : List AV)) (fun ⟨_, l10⟩ => (.cells (Q0j (cI .u8) l10) :: [] : List AObj)) (fun n0 ⟨n9, l10⟩ => Jq N n0 n9 l10) (n_0, []) h fun n0 ⟨n9, l10⟩ h => ?_
 first | rw [Jq] at h | simp only [Jq] at h
 rw [cX] at h;apply iU h <;> intro h
 ·obtain ⟨hk12, h⟩ := Qtj h;refine Qjc (Q4p (c := (cI .u8)) (e := 1) (fun _ => rfl) sd hk12) ?_;refine Q8p (c := (cI .u8)) [(orI .u8 (wrap .u8 ((n9 : Int).tmod 128)) 128)] rfl ?_;show Exists _;exact ⟨(n0, (wrap .i64 ((n9 : Int).tdiv 128)), (l10 ++ [(orI .u8 (wrap .u8 ((n9 : Int).tmod 128)) 128)])), h, Lg _, (rho [2]), X2⟩
 obtain ⟨hk13, h⟩ := Qtj h;refine Qjc (Q4p (c := (cI .u8)) (e := 1) (fun _ => rfl) sd hk13) ?_;refine Q8p (c := (cI .u8)) [(wrap .u8 n9)] rfl ?_;refine Qyr (l := (l10 ++ [(wrap .u8 n9)])) (n := (l10.length + 1)) sd ?_;obtain rfl := Yg h; exact u2
def Q2x : List (Int × Qy) := [(1, (⟨1, 65544, 0, 1⟩ : Qy)), (2, (⟨3, 65544, 0, 4294967295⟩ : Qy)), (3, (⟨5, 65544, 0, 0⟩ : Qy)), (8, (⟨5, 65544, 0, 0⟩ : Qy)), (9, (⟨6, 65544, 0, 0⟩ : Qy)), (11, (⟨4, 264, 1, 268435455⟩ : Qy)), (17, (⟨3, 16390, 0, 4294967295⟩ : Qy)), (18, (⟨5, 4, 0, 0⟩ : Qy)), (19, (⟨2, 4, 0, 65535⟩ : Qy)), (21, (⟨5, 32774, 0, 0⟩ : Qy)), (22, (⟨6, 32774, 0, 0⟩ : Qy)), (23, (⟨1, 2, 0, 1⟩ : Qy)), (24, (⟨3, 65536, 0, 4294967295⟩ : Qy)), (25, (⟨1, 2, 0, 1⟩ : Qy)), (26, (⟨5, 4, 0, 0⟩ : Qy)), (28, (⟨5, 16388, 0, 0⟩ : Qy)), (31, (⟨5, 51956, 0, 0⟩ : Qy)), (33, (⟨2, 6, 1, 65535⟩ : Qy)), (34, (⟨2, 6, 0, 65535⟩ : Qy)), (35, (⟨2, 8, 1, 65535⟩ : Qy)), (36, (⟨1, 4, 0, 1⟩ : Qy)), (37, (⟨1, 4, 0, 1⟩ : Qy)), (38, (⟨7, 118782, 0, 0⟩ : Qy)), (39, (⟨3, 6, 1, 4294967295⟩ : Qy)), (40, (⟨1, 4, 0, 1⟩ : Qy)), (41, (⟨1, 4, 0, 1⟩ : Qy)), (42, (⟨1, 4, 0, 1⟩ : Qy))]
theorem Qfd : pU 123 [] (.pmap (Z27 (fun v => .agg (Qy.cells v)) Q2x)) := Qm Que (N := 2000) (d := 60) (by kernel_rfl)
def Q1h (N : Nat) (l : List Zz) : Nat → Option ((List UInt8) × Int)
 | 0 => none
 | n + 1 =>
  cond (Q3 .lss 0 ((Qd Zz.cells l).length : Int))
  ((idx l 0).bind fun y8 =>
  optC (Qcn Q2x y8.ID) (fun m10 =>
  none)
  (none))
  ((Q4t N 0).bind fun v12 =>
  cond (Q3 .neq v12.2 0)
  (some ([], 4))
  (cond (Nat.ble (v12.1.length + ([] : List UInt8).length) 4611686018427387904) (some ((v12.1 ++ []), 0)) none))
def Q7v (N : Nat) (kind : Int) (l : List Zz) : Option ((List UInt8) × Int) :=
 cond (Q3 .gtr ((Qd Zz.cells l).length : Int) 1000)
 (some ([], 4))
 (Q1h N l N)
theorem Qey {N} {kind} {l} {r} (h : Q7v N kind l = some r) : pU 94 [.int .i64 kind, .slice 4 (Qd Zz.cells l)] (.tuple [.str r.1, .int .i64 r.2]) := by
 refine Q2 k94 ?_;unfold Q7v at h;rw [cX] at h;refine iL2 h fun h => ?_;refine Uh Qfd .nil ?_;refine lpH (τ := Unit) (fun _ => (iI kind :: a4 (.any :: .p (.pmap (Z27 (fun v => .agg (Qy.cells v)) Q2x)) :: .ptr 0 0 :: .p .nilSlice :: a8 (a2 (.p (.slice 4 (Qd Zz.cells l)) :: iI ((Qd Zz.cells l).length : Int) :: iI 0 :: a16 (a16 (a8 (a2 (.any :: []))))))) : List AV)) (fun n0 ⟨⟩ => Q1h N l n0) () h fun n0 ⟨⟩ h => ?_
 first | rw [Q1h] at h | simp only [Q1h] at h
 rw [cX] at h;apply iU h <;> intro h
 ·refine xR h fun y8 h => ?_;refine Qyo h (fun m10 hm11 h => ?_) (fun hm11 h => ?_)
  ·first | (cases h; done) | (simp [Q7f] at h; done)
  first | (cases h; done) | (simp [Q7f] at h; done)
 refine Gn Zgo ?_;refine dF ?_;refine cP h Qbk p1 fun v12 h => ?_;refine iL2 h fun h => ?_;refine kU h fun h => ?_;obtain rfl := Yg h; exact u2
def Q4m (N : Nat) (kind : Int) (l : List Zz) : Option Int :=
 (Q7v N kind l).bind fun v1 =>
 some v1.2
theorem Qeb {N} {kind} {l} {r} (h : Q4m N kind l = some r) : pU 57 [.int .i64 kind, .slice 4 (Qd Zz.cells l)] (.int .i64 r) := by
 refine Q2 k57 ?_;unfold Q4m at h;refine cP h Qey p2 fun v1 h => ?_;cases h; exact (.p _)
def Ge (_N : Nat) (l : Z3) : Option Bool :=
 cond (Q3 .geq l.MaxPacket 16)
 (cond (Q3 .leq l.MaxPacket 1048576)
 (cond (Q3 .geq l.MaxDepth 0)
 (some (Q3 .leq l.MaxDepth 32))
 (some false))
 (some false))
 (some false)
theorem Q95 {N} {l} {r} (h : Ge N l = some r) : pU 68 [.agg (Z3.cells l)] (.bool r) := by
 refine Q2 k68 ?_;unfold Ge at h;rw [cX] at h;refine iR h fun h => ?_;refine iR h fun h => ?_;exact iB h
def Gc (_N : Nat) (n_0 : Int) : Option Bool :=
 cond (Q3 .eql n_0 0)
 (some true)
 (some (Q3 .eql n_0 1))
theorem Q8y {N} {n_0} {r} (h : Gc N n_0 = some r) : pU 69 [.int .i64 n_0] (.bool r) := by
 refine Q2 k69 ?_;unfold Gc at h;rw [cX] at h;exact iB h
def Gf (_N : Nat) (kind : Int) : Option (Int × Bool) :=
 cond (Q3 .eql kind 2)
 (some (1, false))
 (cond (Q3 .eql kind 3)
 (some (8, false))
 (cond (Q3 .eql kind 4)
 (some (16, false))
 (cond (Q3 .eql kind 5)
 (some (32, false))
 (cond (Q3 .eql kind 11)
 (some (32, false))
 (cond (Q3 .eql kind 13)
 (some (32, false))
 (cond (Q3 .eql kind 16)
 (some (32, false))
 (cond (Q3 .eql kind 6)
 (some (64, false))
 (cond (Q3 .eql kind 12)
 (some (64, false))
 (cond (Q3 .eql kind 14)
 (some (64, false))
 (cond (Q3 .eql kind 7)
 (some (8, true))
 (cond (Q3 .eql kind 8)
 (some (16, true))
 (cond (Q3 .eql kind 9)
 (some (32, true))
 (cond (Q3 .eql kind 10)
 (some (64, true))
 (cond (Q3 .eql kind 17)
 (some (64, true))
 (some (0, false))))))))))))))))
theorem Q5f {N} {kind} {r} (h : Gf N kind = some r) : pU 129 [.int .i64 kind] (.tuple [.int .i64 r.1, .bool r.2]) := by
 refine Q2 Z7t ?_;unfold Gf at h;rw [cX] at h;refine iL2 h fun h => ?_;refine iL2 h fun h => ?_;refine iL2 h fun h => ?_;refine ifO h (fun hc4 h => ?_) (fun hc4 h => ?_)
 ·refine ifT hc4 ?_;obtain rfl := Yg h; exact u2
 refine ifO h (fun hc5 h => ?_) (fun hc5 h => ?_)
 ·refine ifT hc5 ?_;obtain rfl := Yg h; exact u2
 refine ifO h (fun hc6 h => ?_) (fun hc6 h => ?_)
 ·refine ifT hc6 ?_;obtain rfl := Yg h; exact u2
 refine iL2 h fun h => ?_;refine ifO h (fun hc8 h => ?_) (fun hc8 h => ?_)
 ·refine ifT hc8 ?_;obtain rfl := Yg h; exact u2
 refine ifO h (fun hc9 h => ?_) (fun hc9 h => ?_)
 ·refine ifT hc9 ?_;obtain rfl := Yg h; exact u2
 refine iL2 h fun h => ?_;refine iL2 h fun h => ?_;refine iL2 h fun h => ?_;refine iL2 h fun h => ?_;refine ifO h (fun hc14 h => ?_) (fun hc14 h => ?_)
 ·refine ifT hc14 ?_;obtain rfl := Yg h; exact u2
 exact iB2 h
def U2 (_N : Nat) (n_0 : Int) (bits : Int) (signed : Bool) : Option Bool :=
 cond signed
 (cond (decide (0 ≤ (wrap .i64 (bits - 1)))) (cond (Q3 .geq (wrap .i64 n_0) (Q41 .i64 (-1) (wrap .i64 (bits - 1))))
 (some (Q3 .leq (wrap .i64 n_0) (wrap .i64 (0 - (wrap .i64 ((Q41 .i64 (-1) (wrap .i64 (bits - 1))) + 1))))))
 (some false)) none)
 (cond (Q3 .eql bits 64)
 (some true)
 (cond (decide (0 ≤ bits)) (some (Q3 .eql (Q5a .u64 n_0 bits) 0)) none))
theorem Q2o {N} {n_0} {bits} {signed} {r} (h : U2 N n_0 bits signed = some r) : pU 130 [.int .u64 n_0, .int .i64 bits, .bool signed] (.bool r) := by
 refine Q2 Zcx ?_;unfold U2 at h;rw [cX] at h;apply iU h <;> intro h
 ·refine kU h fun h => ?_;exact iB h
 refine iL h fun h => ?_;refine kU h fun h => ?_;cases h; exact (.p _)
def J1 (N : Nat) (n_0 : Int) : Option Bool :=
 cond (Q3 .leq n_0 1114111)
 ((Yl N (wrap .i32 n_0)).bind fun v2 =>
 some v2)
 (some false)
theorem Q6x {N} {n_0} {r} (h : J1 N n_0 = some r) : pU 131 [.int .u64 n_0] (.bool r) := by
 refine Q2 Za2 ?_;unfold J1 at h;rw [cX] at h;refine iR h fun h => ?_;refine cP h Gv p1 fun v2 h => ?_;cases h; exact (.p _)
def Uu (_N : Nat) (kind : Int) : Option Bool :=
 cond (Q3 .eql kind 15)
 (some true)
 (cond (Q3 .eql kind 18)
 (some true)
 (cond (Q3 .eql kind 19)
 (some true)
 (cond (Q3 .eql kind 20)
 (some true)
 (cond (Q3 .eql kind 21)
 (some true)
 (some false)))))
theorem Q37 {N} {kind} {r} (h : Uu N kind = some r) : pU 132 [.int .i64 kind] (.bool r) := by
 refine Q2 Z6t ?_;unfold Uu at h;rw [cX] at h;refine ifO h (fun hc1 h => ?_) (fun hc1 h => ?_)
 ·refine ifT hc1 ?_;cases h; exact (.p _)
 refine ifO h (fun hc2 h => ?_) (fun hc2 h => ?_)
 ·refine ifT hc2 ?_;cases h; exact (.p _)
 refine ifO h (fun hc3 h => ?_) (fun hc3 h => ?_)
 ·refine ifT hc3 ?_;cases h; exact (.p _)
 refine ifO h (fun hc4 h => ?_) (fun hc4 h => ?_)
 ·refine ifT hc4 ?_;cases h; exact (.p _)
 exact iB h
def Qn (_N : Nat) (s_0 : List UInt8) : Option Int :=
 (idx s_0 0).bind fun b1 =>
 (idx s_0 1).bind fun b3 =>
 (idx s_0 2).bind fun b5 =>
 (idx s_0 3).bind fun b7 =>
 (idx s_0 4).bind fun b9 =>
 (idx s_0 5).bind fun b11 =>
 (idx s_0 6).bind fun b13 =>
 (idx s_0 7).bind fun b15 =>
 some (orI .u64 (orI .u64 (orI .u64 (orI .u64 (orI .u64 (orI .u64 (orI .u64 (wrap .u64 (b1.toNat : Int)) (Q41 .u64 (wrap .u64 (b3.toNat : Int)) 8)) (Q41 .u64 (wrap .u64 (b5.toNat : Int)) 16)) (Q41 .u64 (wrap .u64 (b7.toNat : Int)) 24)) (Q41 .u64 (wrap .u64 (b9.toNat : Int)) 32)) (Q41 .u64 (wrap .u64 (b11.toNat : Int)) 40)) (Q41 .u64 (wrap .u64 (b13.toNat : Int)) 48)) (Q41 .u64 (wrap .u64 (b15.toNat : Int)) 56))
theorem Zd {N} {s_0} {r} (h : Qn N s_0 = some r) : pU 201 [.str s_0] (.int .u64 r) := by
 refine Q2 Zfd ?_;unfold Qn at h;refine Qb ?_;refine xB h fun b1 h => ?_;refine xB h fun b3 h => ?_;refine xB h fun b5 h => ?_;refine xB h fun b7 h => ?_;refine xB h fun b9 h => ?_;refine xB h fun b11 h => ?_;refine xB h fun b13 h => ?_;refine xB h fun b15 h => ?_;cases h; exact (.p _)
def Zc (N : Nat) (k0 : (List UInt8) → Option Bool) : Nat → (List UInt8) → Option Bool
 | 0, _ => none
 | n + 1, s272 =>
  cond (Q3 .gtr (s272.length : Int) 32)
  ((Qn N s272).bind fun v274 =>
  cond (Nat.ble 8 s272.length && Nat.ble s272.length s272.length) ((Qn N ((s272.take s272.length).drop 8)).bind fun v277 =>
  cond (Nat.ble 16 s272.length && Nat.ble s272.length s272.length) ((Qn N ((s272.take s272.length).drop 16)).bind fun v280 =>
  cond (Nat.ble 24 s272.length && Nat.ble s272.length s272.length) ((Qn N ((s272.take s272.length).drop 24)).bind fun v283 =>
  cond (Q3 .eql (Q2n .u64 (orI .u64 (orI .u64 v274 v277) (orI .u64 v280 v283)) 9259542123273814144) 0)
  (cond (Nat.ble 32 s272.length && Nat.ble s272.length s272.length) (Zc N k0 n ((s272.take s272.length).drop 32)) none)
  (k0 s272)) none) none) none)
  (k0 s272)
def Q6 (N : Nat) : Nat → (List UInt8) → Option Bool
 | 0, _ => none
 | n + 1, s224 =>
  cond (Q3 .gtr (s224.length : Int) 0)
  ((idx s224 0).bind fun b226 =>
  cond (Q3 .lss (b226.toNat : Int) 128)
  (cond (Nat.ble 1 s224.length && Nat.ble s224.length s224.length) (cond (Q3 .gtr (((s224.take s224.length).drop 1).length : Int) 8)
  ((Qn N ((s224.take s224.length).drop 1)).bind fun v231 =>
  cond (Q3 .eql (Q2n .u64 v231 9259542123273814144) 0)
  (cond (Nat.ble 8 (((s224.take s224.length).drop 1).length) && Nat.ble (((s224.take s224.length).drop 1).length) ((s224.take s224.length).drop 1).length) (cond (Q3 .gtr (((((s224.take s224.length).drop 1).take (((s224.take s224.length).drop 1).length)).drop 8).length : Int) 16)
  ((Qn N ((((s224.take s224.length).drop 1).take (((s224.take s224.length).drop 1).length)).drop 8)).bind fun v236 =>
  cond (Nat.ble 8 (((((s224.take s224.length).drop 1).take (((s224.take s224.length).drop 1).length)).drop 8).length) && Nat.ble (((((s224.take s224.length).drop 1).take (((s224.take s224.length).drop 1).length)).drop 8).length) ((((s224.take s224.length).drop 1).take (((s224.take s224.length).drop 1).length)).drop 8).length) ((Qn N ((((((s224.take s224.length).drop 1).take (((s224.take s224.length).drop 1).length)).drop 8).take (((((s224.take s224.length).drop 1).take (((s224.take s224.length).drop 1).length)).drop 8).length)).drop 8)).bind fun v239 =>
  cond (Q3 .eql (Q2n .u64 (orI .u64 v236 v239) 9259542123273814144) 0)
  (cond (Nat.ble 16 (((((s224.take s224.length).drop 1).take (((s224.take s224.length).drop 1).length)).drop 8).length) && Nat.ble (((((s224.take s224.length).drop 1).take (((s224.take s224.length).drop 1).length)).drop 8).length) ((((s224.take s224.length).drop 1).take (((s224.take s224.length).drop 1).length)).drop 8).length) (Zc N (Q6 N n) N ((((((s224.take s224.length).drop 1).take (((s224.take s224.length).drop 1).length)).drop 8).take (((((s224.take s224.length).drop 1).take (((s224.take s224.length).drop 1).length)).drop 8).length)).drop 16)) none)
  (Q6 N n ((((s224.take s224.length).drop 1).take (((s224.take s224.length).drop 1).length)).drop 8))) none)
  (Q6 N n ((((s224.take s224.length).drop 1).take (((s224.take s224.length).drop 1).length)).drop 8))) none)
  (Q6 N n ((s224.take s224.length).drop 1)))
  (Q6 N n ((s224.take s224.length).drop 1))) none)
  ((idx gtab0 (b226.toNat : Int)).bind fun y287 =>
  (idx gtab1 (Q5a .u8 y287 4)).bind fun y289 =>
  cond (Q3 .eql (wrap .i64 (Q2n .u8 y287 7)) 2)
  (cond (Q3 .lss (s224.length : Int) 2)
  (some false)
  ((idx s224 1).bind fun b293 =>
  cond (Q3 .lss (b293.toNat : Int) y289.1)
  (some false)
  ((idx s224 1).bind fun b296 =>
  cond (Q3 .lss y289.2 (b296.toNat : Int))
  (some false)
  (cond (Nat.ble 2 s224.length && Nat.ble s224.length s224.length) (Q6 N n ((s224.take s224.length).drop 2)) none))))
  (cond (Q3 .eql (wrap .i64 (Q2n .u8 y287 7)) 3)
  (cond (Q3 .lss (s224.length : Int) 3)
  (some false)
  ((idx s224 1).bind fun b302 =>
  cond (Q3 .lss (b302.toNat : Int) y289.1)
  (some false)
  ((idx s224 1).bind fun b305 =>
  cond (Q3 .lss y289.2 (b305.toNat : Int))
  (some false)
  ((idx s224 2).bind fun b308 =>
  cond (Q3 .lss (b308.toNat : Int) 128)
  (some false)
  ((idx s224 2).bind fun b311 =>
  cond (Q3 .lss 191 (b311.toNat : Int))
  (some false)
  (cond (Nat.ble 3 s224.length && Nat.ble s224.length s224.length) (Q6 N n ((s224.take s224.length).drop 3)) none))))))
  (cond (Q3 .eql (wrap .i64 (Q2n .u8 y287 7)) 4)
  (cond (Q3 .lss (s224.length : Int) 4)
  (some false)
  ((idx s224 1).bind fun b317 =>
  cond (Q3 .lss (b317.toNat : Int) y289.1)
  (some false)
  ((idx s224 1).bind fun b320 =>
  cond (Q3 .lss y289.2 (b320.toNat : Int))
  (some false)
  ((idx s224 2).bind fun b323 =>
  cond (Q3 .lss (b323.toNat : Int) 128)
  (some false)
  ((idx s224 2).bind fun b326 =>
  cond (Q3 .lss 191 (b326.toNat : Int))
  (some false)
  ((idx s224 3).bind fun b329 =>
  cond (Q3 .lss (b329.toNat : Int) 128)
  (some false)
  ((idx s224 3).bind fun b332 =>
  cond (Q3 .lss 191 (b332.toNat : Int))
  (some false)
  (cond (Nat.ble 4 s224.length && Nat.ble s224.length s224.length) (Q6 N n ((s224.take s224.length).drop 4)) none))))))))
  (some false)))))
  (some true)
def V9 (N : Nat) (s_0 : List UInt8) : Option Bool :=
 Q6 N N s_0
theorem Q31 {N} {s_0} {r} (h : V9 N s_0 = some r) : pU 173 [.str s_0] (.bool r) := by
 refine Q2 Zfq ?_;unfold V9 at h;refine lpH (τ := (List UInt8)) (fun s224 => (iS s224 :: a16 (a16 (a16 (a16 (a16 (a16 (a16 (a16 (a16 (a16 (a8 ([]))))))))))) : List AV)) (fun n0 s224 => Q6 N n0 s224) (s_0) h fun n0 s224 h => ?_
 first | rw [Q6] at h | simp only [Q6] at h
 rw [cX] at h;refine iR h fun h => ?_;refine xB h fun b226 h => ?_;apply iU h <;> intro h
 ·refine kU h fun h => ?_;apply iU h <;> intro h
  ·refine cP h Zd p1 fun v231 h => ?_;apply iU h <;> intro h
   ·refine kU h fun h => ?_;refine Qb ?_;apply iU h <;> intro h
    ·refine cD h Zd p1 fun v236 h => ?_;refine kU h fun h => ?_;refine cD h Zd p1 fun v239 h => ?_;apply iU h <;> intro h
     ·refine kU h fun h => ?_;refine lpH (τ := (List UInt8)) (fun s272 => (iS s272 :: a16 (a16 (a16 (a16 (a16 (a16 (a16 (a16 (a16 (a16 (a8 ([]))))))))))) : List AV)) (fun n1 s272 => Zc N (Q6 N n0) n1 s272) (((((((s224.take s224.length).drop 1).take (((s224.take s224.length).drop 1).length)).drop 8).take (((((s224.take s224.length).drop 1).take (((s224.take s224.length).drop 1).length)).drop 8).length)).drop 16)) h fun n1 s272 h => ?_
      first | rw [Zc] at h | simp only [Zc] at h
      rw [cX] at h;refine Qb ?_;apply iU h <;> intro h
      ·refine cD h Zd p1 fun v274 h => ?_;refine kU h fun h => ?_;refine cD h Zd p1 fun v277 h => ?_;refine kU h fun h => ?_;refine cD h Zd p1 fun v280 h => ?_;refine kU h fun h => ?_;refine cD h Zd p1 fun v283 h => ?_;apply iU h <;> intro h
       ·refine kU h fun h => ?_;show Exists _;exact ⟨(n1, ((s272.take s272.length).drop 32)), h, Lg _, (fun i => i), X2⟩
       show Exists _;exact ⟨(n0, s272), h, Lg _, (fun i => i), X2⟩
      show Exists _;exact ⟨(n0, s272), h, Lg _, (fun i => i), X2⟩
     show Exists _;exact ⟨(n0, ((((s224.take s224.length).drop 1).take (((s224.take s224.length).drop 1).length)).drop 8)), h, Lg _, (fun i => i), X2⟩
    show Exists _;exact ⟨(n0, ((((s224.take s224.length).drop 1).take (((s224.take s224.length).drop 1).length)).drop 8)), h, Lg _, (fun i => i), X2⟩
   show Exists _;exact ⟨(n0, ((s224.take s224.length).drop 1)), h, Lg _, (fun i => i), X2⟩
  show Exists _;exact ⟨(n0, ((s224.take s224.length).drop 1)), h, Lg _, (fun i => i), X2⟩
 obtain ⟨y287, hy288, h⟩ := Q0a h;refine Qjc (Qit hy288 Qts) ?_
 refine Qrh (c := (cI .u8)) (e := 1) (fun _ => rfl) Qxk hy288 (off := 0) (by decide) (by first | omega | (simp only [Q2n, orI, Z21, Qbo, Q41, Q5a]; omega)) ?_
 obtain ⟨y289, hy290, h⟩ := Q0a h;refine Qjc (Qit hy290 Qsm) ?_
 refine Qrh (c := cUU) (e := 2) (fun _ => rfl) Qxq hy290 (off := 0) (by decide) (by first | omega | (simp only [Q2n, orI, Z21, Qbo, Q41, Q5a]; omega)) ?_
 apply iU h <;> intro h
 ·refine Qb ?_;refine iL h fun h => ?_;refine xB h fun b293 h => ?_;refine iL h fun h => ?_;refine xB h fun b296 h => ?_;refine iL h fun h => ?_;refine kU h fun h => ?_;show Exists _;exact ⟨(n0, ((s224.take s224.length).drop 2)), h, Lg _, (fun i => i), X2⟩
 apply iU h <;> intro h
 ·refine Qb ?_;refine iL h fun h => ?_;refine xB h fun b302 h => ?_;refine iL h fun h => ?_;refine xB h fun b305 h => ?_;refine iL h fun h => ?_;refine xB h fun b308 h => ?_;refine iL h fun h => ?_;refine xB h fun b311 h => ?_;refine iL h fun h => ?_;refine kU h fun h => ?_;show Exists _;exact ⟨(n0, ((s224.take s224.length).drop 3)), h, Lg _, (fun i => i), X2⟩
 refine iR h fun h => ?_;refine Qb ?_;refine iL h fun h => ?_;refine xB h fun b317 h => ?_;refine iL h fun h => ?_;refine xB h fun b320 h => ?_;refine iL h fun h => ?_;refine xB h fun b323 h => ?_;refine iL h fun h => ?_;refine xB h fun b326 h => ?_;refine iL h fun h => ?_;refine xB h fun b329 h => ?_;refine iL h fun h => ?_;refine xB h fun b332 h => ?_;refine iL h fun h => ?_;refine kU h fun h => ?_;show Exists _;exact ⟨(n0, ((s224.take s224.length).drop 4)), h, Lg _, (fun i => i), X2⟩
def Vi (N : Nat) (v : Q0) : Nat → Int → Option Int
 | 0, _ => none
 | n + 1, s15 =>
  cond (Q3 .lss s15 (v.Text.length : Int))
  ((idx v.Text s15).bind fun b17 =>
  cond (Q3 .geq (b17.toNat : Int) 128)
  (some 6)
  (Vi N v n (wrap .i64 (s15 + 1))))
  (some 0)
def Wq (N : Nat) (v : Q0) : Option Int :=
 cond (Q3 .eql v.Kind 20)
 ((V9 N v.Text).bind fun v2 =>
 cond (!v2)
 (some 6)
 (some 0))
 (cond (Q3 .eql v.Kind 21)
 (Vi N v N 0)
 (some 0))
theorem Uv {N} {v} {r} (h : Wq N v = some r) : pU 133 [.agg (Q0.cells v)] (.int .i64 r) := by
 refine Q2 Zgr ?_;unfold Wq at h;rw [cX] at h;apply iU h <;> intro h
 ·refine cP h Q31 p1 fun v2 h => ?_;exact iB h
 refine iR h fun h => ?_;refine lpH (τ := Int) (fun s15 => (.any :: .ptr 0 0 :: a8 (a4 (a2 (iI (v.Text.length : Int) :: iI s15 :: a8 ([])))) : List AV)) (fun n0 s15 => Vi N v n0 s15) (0) h fun n0 s15 h => ?_
 first | rw [Vi] at h | simp only [Vi] at h
 rw [cX] at h;refine iR h fun h => ?_;refine xB h fun b17 h => ?_;refine iL h fun h => ?_;show Exists _;exact ⟨(n0, (wrap .i64 (s15 + 1))), h, Lg _, (fun i => i), X2⟩
def Jw (N : Nat) (v : Q0) : Option Int :=
 cond (Q3 .lss v.Kind 1)
 (some 8)
 (cond (Q3 .gtr v.Kind 21)
 (some 8)
 ((Gf N v.Kind).bind fun v3 =>
 (U2 N v.N' v3.1 v3.2).bind fun v5 =>
 cond (!v5)
 (some 2)
 (cond (Q3 .eql v.Kind 16)
 ((J1 N v.N').bind fun v9 =>
 cond (!v9)
 (some 2)
 (cond (Q3 .neq ((Q0.rows v.Items).length : Int) 0)
 (some 2)
 ((Uu N v.Kind).bind fun v13 =>
 cond (!v13)
 (cond (Q35 .neq v.Text [])
 (some 2)
 (some 0))
 (cond (Q3 .eql v.Kind 15)
 (cond (Q3 .neq (v.Text.length : Int) 16)
 (some 2)
 (cond (Q3 .gtr (v.Text.length : Int) 1048576)
 (some 4)
 ((Wq N v).bind fun v20 =>
 some v20)))
 (cond (Q3 .eql v.Kind 18)
 (cond (Q3 .neq (v.Text.length : Int) 16)
 (some 2)
 (cond (Q3 .gtr (v.Text.length : Int) 1048576)
 (some 4)
 ((Wq N v).bind fun v25 =>
 some v25)))
 (cond (Q3 .gtr (v.Text.length : Int) 1048576)
 (some 4)
 ((Wq N v).bind fun v28 =>
 some v28)))))))
 (cond (Q3 .neq ((Q0.rows v.Items).length : Int) 0)
 (some 2)
 ((Uu N v.Kind).bind fun v31 =>
 cond (!v31)
 (cond (Q35 .neq v.Text [])
 (some 2)
 (some 0))
 (cond (Q3 .eql v.Kind 15)
 (cond (Q3 .neq (v.Text.length : Int) 16)
 (some 2)
 (cond (Q3 .gtr (v.Text.length : Int) 1048576)
 (some 4)
 ((Wq N v).bind fun v38 =>
 some v38)))
 (cond (Q3 .eql v.Kind 18)
 (cond (Q3 .neq (v.Text.length : Int) 16)
 (some 2)
 (cond (Q3 .gtr (v.Text.length : Int) 1048576)
 (some 4)
 ((Wq N v).bind fun v43 =>
 some v43)))
 (cond (Q3 .gtr (v.Text.length : Int) 1048576)
 (some 4)
 ((Wq N v).bind fun v46 =>
 some v46)))))))))
theorem Q4h {N} {v} {r} (h : Jw N v = some r) : pU 97 [.agg (Q0.cells v)] (.int .i64 r) := by
 refine Q2 k97 ?_;unfold Jw at h;rw [cX, cY] at h;refine iL h fun h => ?_;refine iL h fun h => ?_;refine cP h Q5f p1 fun v3 h => ?_;refine cP h Q2o p3 fun v5 h => ?_;refine iL h fun h => ?_;apply iU h <;> intro h
 ·refine cP h Q6x p1 fun v9 h => ?_;refine iL h fun h => ?_;refine iL h fun h => ?_;refine cP h Q37 p1 fun v13 h => ?_;apply iU h <;> intro h
  ·exact iB h
  apply iU h <;> intro h
  ·refine iL h fun h => ?_;refine iL h fun h => ?_;refine cP h Uv (.cons q4 .nil) fun v20 h => ?_;cases h; exact (.p _)
  apply iU h <;> intro h
  ·refine iL h fun h => ?_;refine iL h fun h => ?_;refine cP h Uv (.cons q4 .nil) fun v25 h => ?_;cases h; exact (.p _)
  refine iL h fun h => ?_;refine cP h Uv (.cons q4 .nil) fun v28 h => ?_;cases h; exact (.p _)
 refine iL h fun h => ?_;refine cP h Q37 p1 fun v31 h => ?_;apply iU h <;> intro h
 ·exact iB h
 apply iU h <;> intro h
 ·refine iL h fun h => ?_;refine iL h fun h => ?_;refine cP h Uv (.cons q4 .nil) fun v38 h => ?_;cases h; exact (.p _)
 apply iU h <;> intro h
 ·refine iL h fun h => ?_;refine iL h fun h => ?_;refine cP h Uv (.cons q4 .nil) fun v43 h => ?_;cases h; exact (.p _)
 refine iL h fun h => ?_;refine cP h Uv (.cons q4 .nil) fun v46 h => ?_;cases h; exact (.p _)
def Jr (_N : Nat) (v : Q0) : Option Bool :=
 cond (Q35 .neq v.Text [])
 (some false)
 (cond (Q3 .eql v.Kind 24)
 (cond (Q3 .geq v.N' 1)
 (some (Q3 .leq v.N' 24))
 (some false))
 (cond (Q3 .neq v.N' 0)
 (some false)
 (cond (Q3 .eql v.Kind 25)
 (some (Q3 .eql ((Q0.rows v.Items).length : Int) 2))
 (cond (Q3 .eql v.Kind 23)
 (some (Q3 .eql ((((Q0.rows v.Items).length : Int) : Int).tmod 2) 0))
 (some true)))))
theorem Q8j {N} {v} {r} (h : Jr N v = some r) : pU 98 [.agg (Q0.cells v)] (.bool r) := by
 refine Q2 k98 ?_;unfold Jr at h;rw [cX, cY] at h;refine iL h fun h => ?_;apply iU h <;> intro h
 ·exact iB h
 refine iL h fun h => ?_;refine iL h fun h => ?_;exact iB h
def Zj (_N : Nat) (v : Q0) : Option Bool :=
 cond (Q3 .eql v.Kind 11)
 (cond (Q3 .eql (Q2n .u64 (Q5a .u64 v.N' 23) 255) 255)
 (some (Q3 .neq (Q41 .u64 v.N' 41) 0))
 (some false))
 (cond (Q3 .eql v.Kind 12)
 (cond (Q3 .eql (Q2n .u64 (Q5a .u64 v.N' 52) 2047) 2047)
 (some (Q3 .neq (Q41 .u64 v.N' 12) 0))
 (some false))
 (some false))
theorem Q29 {N} {v} {r} (h : Zj N v = some r) : pU 174 [.agg (Q0.cells v)] (.bool r) := by
 refine Q2 Z9p ?_;unfold Zj at h;rw [cX] at h;apply iU h <;> intro h
 ·exact iB h
 refine iR h fun h => ?_;exact iB h
def Wh (rx1 : Q0 → Q0 → Option Bool) (N : Nat) (a : Q0) (b : Q0) : Nat → Int → Option Bool
 | 0, _ => none
 | n + 1, s28 =>
  cond (Q3 .lss s28 ((Q0.rows a.Items).length : Int))
  ((idx a.Items s28).bind fun y30 =>
  (idx b.Items s28).bind fun y32 =>
  (rx1 y30 y32).bind fun v34 =>
  cond (!v34)
  (some false)
  (Wh rx1 N a b n (wrap .i64 (s28 + 1))))
  (some true)
def Wi (rx1 : Q0 → Q0 → Option Bool) (N : Nat) (a : Q0) (b : Q0) : Nat → Int → Option Bool
 | 0, _ => none
 | n + 1, s54 =>
  cond (Q3 .lss s54 ((Q0.rows a.Items).length : Int))
  ((idx a.Items s54).bind fun y56 =>
  (idx b.Items s54).bind fun y58 =>
  (rx1 y56 y58).bind fun v60 =>
  cond (!v60)
  (some false)
  (Wi rx1 N a b n (wrap .i64 (s54 + 1))))
  (some true)
def Q0s (rx1 : Q0 → Q0 → Option Bool) (N : Nat) (a : Q0) (b : Q0) : Option Bool :=
 cond (Q3 .neq a.Kind b.Kind)
 (some false)
 (cond (Q35 .neq a.Text b.Text)
 (some false)
 (cond (Q3 .neq ((Q0.rows a.Items).length : Int) ((Q0.rows b.Items).length : Int))
 (some false)
 (cond (Q3 .neq a.N' b.N')
 ((Zj N a).bind fun v5 =>
 cond v5
 ((Zj N b).bind fun v8 =>
 cond (!v8)
 (some false)
 (Wh rx1 N a b N 0))
 (some false))
 (Wi rx1 N a b N 0))))
theorem Q97 {rx1 : Q0 → Q0 → Option Bool} (hw3 : ∀ {a} {b} {r}, rx1 a b = some r → pU 134 [.agg (Q0.cells a), .agg (Q0.cells b)] (.bool r)) {N} {a} {b} {r} (h : Q0s rx1 N a b = some r) : pU 134 [.agg (Q0.cells a), .agg (Q0.cells b)] (.bool r) := by
 refine Q2 Z66 ?_;unfold Q0s at h;rw [cX, cY] at h;refine iL h fun h => ?_;refine iL h fun h => ?_;refine iL h fun h => ?_;apply iU h <;> intro h
 ·refine cP h Q29 (.cons q4 .nil) fun v5 h => ?_;refine iR h fun h => ?_;refine cP h Q29 (.cons q4 .nil) fun v8 h => ?_;refine iL h fun h => ?_;refine lpH (τ := Int) (fun s28 => (.any :: .any :: .ptr 0 0 :: .ptr 1 0 :: a16 (a16 (a4 (a2 (.any :: iI ((Q0.rows a.Items).length : Int) :: iI s28 :: a8 (a4 (a2 (.any :: []))))))) : List AV)) (fun n0 s28 => Wh rx1 N a b n0 s28) (0) h fun n0 s28 h => ?_
  first | rw [Wh] at h | simp only [Wh] at h
  rw [cX] at h;refine iR h fun h => ?_;refine Qb ?_;refine Q0.xR h fun y30 h => ?_;refine Q0.xR h fun y32 h => ?_;refine cD h hw3 (.cons q4 (.cons q4 .nil)) fun v34 h => ?_;refine iL h fun h => ?_;show Exists _;exact ⟨(n0, (wrap .i64 (s28 + 1))), h, Lg _, (fun i => i), X2⟩
 refine lpH (τ := Int) (fun s54 => (.any :: .any :: .ptr 0 0 :: .ptr 1 0 :: a16 (a16 (a4 (a2 (.any :: iI ((Q0.rows a.Items).length : Int) :: iI s54 :: a8 (a4 (a2 (.any :: []))))))) : List AV)) (fun n1 s54 => Wi rx1 N a b n1 s54) (0) h fun n1 s54 h => ?_
 first | rw [Wi] at h | simp only [Wi] at h
 rw [cX] at h;refine iR h fun h => ?_;refine Qb ?_;refine Q0.xR h fun y56 h => ?_;refine Q0.xR h fun y58 h => ?_;refine cD h hw3 (.cons q4 (.cons q4 .nil)) fun v60 h => ?_;refine iL h fun h => ?_;show Exists _;exact ⟨(n1, (wrap .i64 (s54 + 1))), h, Lg _, (fun i => i), X2⟩
def Uc : Nat → Q0 → Q0 → Option Bool
 | 0 => fun _ _ => none
 | N + 1 => Q0s (Uc N) N
theorem Q96 {N} {a} {b} {r} (h : Uc N a b = some r) : pU 134 [.agg (Q0.cells a), .agg (Q0.cells b)] (.bool r) := by
 induction N generalizing a b r with
 | zero => simp [Uc] at h
 | succ N ih => exact Q97 (fun h => ih h) h
def Wt (N : Nat) (k0 : Int → Option Int) (v : Q0) (i56 : Int) : Nat → Int → Option Int
 | 0, _ => none
 | n + 1, k75 =>
  cond (Q3 .lss k75 i56)
  ((idx v.Items i56).bind fun y77 =>
  (idx v.Items k75).bind fun y79 =>
  (Uc N y77 y79).bind fun v81 =>
  cond v81
  (some 16)
  (Wt N k0 v i56 n (wrap .i64 (k75 + 2))))
  (k0 (wrap .i64 (i56 + 2)))
def X6 (N : Nat) (v : Q0) : Nat → Int → Option Int
 | 0, _ => none
 | n + 1, i56 =>
  cond (Q3 .lss i56 ((Q0.rows v.Items).length : Int))
  (Wt N (X6 N v n) v i56 N 0)
  (some 0)
def Q02 (N : Nat) (v : Q0) : Option Int :=
 cond (Q3 .neq v.Kind 23)
 (some 0)
 (X6 N v N 2)
theorem Qa6 {N} {v} {r} (h : Q02 N v = some r) : pU 99 [.agg (Q0.cells v)] (.int .i64 r) := by
 refine Q2 k99 ?_;unfold Q02 at h;rw [cX] at h;refine iL h fun h => ?_;refine lpH (τ := Int) (fun i56 => (.any :: .ptr 0 0 :: .any :: iI i56 :: a16 (a8 (a2 (.any :: []))) : List AV)) (fun n0 i56 => X6 N v n0 i56) (2) h fun n0 i56 h => ?_
 first | rw [X6] at h | simp only [X6] at h
 rw [cX] at h;refine iR h fun h => ?_;refine lpH (τ := Int) (fun k75 => (.any :: .ptr 0 0 :: .any :: iI i56 :: iI k75 :: a16 (a8 (a2 ([]))) : List AV)) (fun n1 k75 => Wt N (X6 N v n0) v i56 n1 k75) (0) h fun n1 k75 h => ?_
 first | rw [Wt] at h | simp only [Wt] at h
 rw [cX] at h;apply iU h <;> intro h
 ·refine Qb ?_;refine Q0.xR h fun y77 h => ?_;refine Q0.xR h fun y79 h => ?_;refine cD h Q96 (.cons q4 (.cons q4 .nil)) fun v81 h => ?_;refine iL h fun h => ?_;show Exists _;exact ⟨(n1, (wrap .i64 (k75 + 2))), h, Lg _, (fun i => i), X2⟩
 show Exists _;exact ⟨(n0, (wrap .i64 (i56 + 2))), h, Lg _, (fun i => i), X2⟩
def Yo (rz1 : Q0 → Int → Option Int) (N : Nat) (v : Q0) (most : Int) : Nat → Int → Option Int
 | 0, _ => none
 | n + 1, s34 =>
  cond (Q3 .lss s34 ((Q0.rows v.Items).length : Int))
  ((idx v.Items s34).bind fun y36 =>
  cond (Q3 .eql v.Kind 24)
  (cond (Q3 .neq (wrap .u64 y36.Kind) v.N')
  (some 8)
  ((rz1 y36 (wrap .i64 (most - 1))).bind fun v40 =>
  cond (Q3 .neq v40 0)
  (some v40)
  (Yo rz1 N v most n (wrap .i64 (s34 + 1)))))
  ((rz1 y36 (wrap .i64 (most - 1))).bind fun v43 =>
  cond (Q3 .neq v43 0)
  (some v43)
  (Yo rz1 N v most n (wrap .i64 (s34 + 1)))))
  ((Q02 N v).bind fun v46 =>
  some v46)
def Gq (rz1 : Q0 → Int → Option Int) (N : Nat) (v : Q0) (most : Int) : Option Int :=
 cond (Q3 .lss v.Kind 1)
 (some 8)
 (cond (Q3 .gtr v.Kind 25)
 (some 8)
 (cond (Q3 .leq v.Kind 21)
 ((Jw N v).bind fun v4 =>
 some v4)
 (cond (Q3 .eql most 0)
 (some 14)
 ((Jr N v).bind fun v7 =>
 cond (!v7)
 (some 2)
 (cond (Q3 .gtr ((Q0.rows v.Items).length : Int) 1000)
 (some 4)
 (Yo rz1 N v most N 0))))))
theorem Q75 {rz1 : Q0 → Int → Option Int} (hy3 : ∀ {v} {most} {r}, rz1 v most = some r → Qr3 Tryz.prog G1 96 [.agg (Q0.cells v), .int .i64 most] (.int .i64 r)) {N} {v} {most} {r} (h : Gq rz1 N v most = some r) : Qr3 Tryz.prog G1 96 [.agg (Q0.cells v), .int .i64 most] (.int .i64 r) := by
 refine Qqj k96 ?_;unfold Gq at h;rw [cX] at h;apply iU h <;> intro h
 ·obtain rfl := Yg h; exact ⟨_, rfl, (.p _)⟩
 apply iU h <;> intro h
 ·obtain rfl := Yg h; exact ⟨_, rfl, (.p _)⟩
 apply iU h <;> intro h
 ·refine cP h Q4h (.cons q4 .nil) fun v4 h => ?_;obtain rfl := Yg h; exact ⟨_, rfl, (.p _)⟩
 apply iU h <;> intro h
 ·obtain rfl := Yg h; exact ⟨_, rfl, (.p _)⟩
 refine cP h Q8j (.cons q4 .nil) fun v7 h => ?_;apply iU h <;> intro h
 ·obtain rfl := Yg h; exact ⟨_, rfl, (.p _)⟩
 apply iU h <;> intro h
 ·obtain rfl := Yg h; exact ⟨_, rfl, (.p _)⟩
 refine lpH (τ := Int) (fun s34 => (.any :: iI most :: .ptr 0 0 :: .ptr 1 0 :: a16 (a16 (.any :: .p (.slice 4 (Q0.rows v.Items)) :: iI ((Q0.rows v.Items).length : Int) :: iI s34 :: a16 (a8 (.any :: [])))) : List AV)) (fun n0 s34 => Yo rz1 N v most n0 s34) (0) h fun n0 s34 h => ?_
 first | rw [Yo] at h | simp only [Yo] at h
 rw [cX] at h;apply iU h <;> intro h
 ·refine Q0.xR h fun y36 h => ?_;apply iU h <;> intro h
  ·apply iU h <;> intro h
   ·obtain rfl := Yg h; exact ⟨_, rfl, (.p _)⟩
   obtain ⟨v40, hv41, h⟩ := Q0a h;refine Qfa (hy3 hv41) (.cons q4 p1) rfl rfl ?_;apply iU h <;> intro h
   ·obtain rfl := Yg h; exact ⟨_, rfl, (.p _)⟩
   show Exists _;exact ⟨(n0, (wrap .i64 (s34 + 1))), h, Lg _, (fun i => i), X2⟩
  obtain ⟨v43, hv44, h⟩ := Q0a h;refine Qfa (hy3 hv44) (.cons q4 p1) rfl rfl ?_;apply iU h <;> intro h
  ·obtain rfl := Yg h; exact ⟨_, rfl, (.p _)⟩
  show Exists _;exact ⟨(n0, (wrap .i64 (s34 + 1))), h, Lg _, (fun i => i), X2⟩
 refine cP h Qa6 (.cons q4 .nil) fun v46 h => ?_;obtain rfl := Yg h; exact ⟨_, rfl, (.p _)⟩
def V0 : Nat → Q0 → Int → Option Int
 | 0 => fun _ _ => none
 | N + 1 => Gq (V0 N) N
theorem Q7u {N} {v} {most} {r} (h : V0 N v most = some r) : Qr3 Tryz.prog G1 96 [.agg (Q0.cells v), .int .i64 most] (.int .i64 r) := by
 induction N generalizing v most r with
 | zero => simp [V0] at h
 | succ N ih => exact Q75 (fun h => ih h) h
def Ui (_N : Nat) (most : Int) : Option Bool :=
 cond (Q3 .geq most 0)
 (some (Q3 .leq most 32))
 (some false)
theorem Q6o {N} {most} {r} (h : Ui N most = some r) : pU 95 [.int .i64 most] (.bool r) := by
 refine Q2 k95 ?_;unfold Ui at h;rw [cX] at h;exact iB h
def J7 (N : Nat) (v : Q0) (most : Int) : Option Int :=
 (Ui N most).bind fun v1 =>
 cond (!v1)
 (some 2)
 ((V0 N v most).bind fun v4 =>
 some v4)
theorem Q3o {N} {v} {most} {r} (h : J7 N v most = some r) : pU 70 [.agg (Q0.cells v), .int .i64 most] (.int .i64 r) := by
 refine Q2 k70 ?_;unfold J7 at h;refine cP h Q6o p1 fun v1 h => ?_;refine iL h fun h => ?_;obtain ⟨v4, hv5, h⟩ := Q0a h;refine Qfa (Q7u hv5) (.cons q4 p1) rfl rfl ?_;cases h; exact (.p _)
def Q0l (N : Nat) (c : Qt) (v : Q0) : Option Bool :=
 cond (Q3 .eql c.Code 65)
 (some (Q3 .eql v.N' 1))
 (cond c.Sized
 (cond (Q3 .eql c.Width 4)
 (some true)
 (some (Q3 .leq (v.Text.length : Int) 255)))
 (cond (Q3 .eql c.Width 0)
 (some (Q3 .eql v.N' 0))
 (cond (Q3 .eql c.Width 1)
 ((Gf N c.Kind).bind fun v6 =>
 (U2 N v.N' 8 v6.2).bind fun v8 =>
 some v8)
 (some true))))
theorem Qbm {N} {c} {v} {r} (h : Q0l N c v = some r) : pU 232 [.agg (Qt.cells c), .agg (Q0.cells v)] (.bool r) := by
 refine Q2 Zb4 ?_;unfold Q0l at h;rw [cX] at h;refine iL h fun h => ?_;apply iU h <;> intro h
 ·exact iB h
 refine iL h fun h => ?_;refine iR h fun h => ?_;refine cP h Q5f p1 fun v6 h => ?_;refine cP h Q2o p3 fun v8 h => ?_;cases h; exact (.p _)
def Q0p (N : Nat) (code : Int) (v : Q0) : Option Bool :=
 (Je N code).bind fun v1 =>
 cond v1.2
 (cond (Q3 .eql v1.1.Kind v.Kind)
 ((Jw N v).bind fun v5 =>
 cond (Q3 .eql v5 0)
 ((Q0l N v1.1 v).bind fun v8 =>
 some v8)
 (some false))
 (some false))
 (some false)
theorem Qbs {N} {code} {v} {r} (h : Q0p N code v = some r) : pU 204 [.int .i64 code, .agg (Q0.cells v)] (.bool r) := by
 refine Q2 Z9k ?_;unfold Q0p at h;rw [cX] at h;refine cP h Q3x p1 fun v1 h => ?_;refine iR h fun h => ?_;refine iR h fun h => ?_;refine cP h Q4h (.cons q4 .nil) fun v5 h => ?_;refine iR h fun h => ?_;refine cP h Qbm (.cons (Frz.agg' p5) (.cons q4 .nil)) fun v8 h => ?_;cases h; exact (.p _)
def Y7 (N : Nat) (f : Q1) (code : Int) : Option Bool :=
 (Je N code).bind fun v1 =>
 cond (!v1.1.Items)
 ((Q0p N code f.v).bind fun v4 =>
 some v4)
 (cond (Q3 .eql v1.1.Kind 25)
 (some true)
 (cond (!v1.1.Sized)
 (some (Q3 .eql ((Q1.rows f.kids).length : Int) 0))
 (cond (Q3 .eql v1.1.Width 4)
 (some true)
 (cond (Q3 .leq (wrap .i64 (f.inner + 1)) 255)
 (some (Q3 .leq ((Q1.rows f.kids).length : Int) 255))
 (some false)))))
theorem Q67 {N} {f} {code} {r} (h : Y7 N f code = some r) : pU 176 [.agg (Q1.cells f), .int .i64 code] (.bool r) := by
 refine Q2 Zgb ?_;unfold Y7 at h;rw [cX] at h;refine cP h Q3x p1 fun v1 h => ?_;apply iU h <;> intro h
 ·refine cP h Qbs (.cons (.p _) (.cons q4 .nil)) fun v4 h => ?_;cases h; exact (.p _)
 refine iL h fun h => ?_;refine iL h fun h => ?_;refine iL h fun h => ?_;exact iB h
def Xc (N : Nat) (k0 : Int → Option Int) (l : List Q1) (s54 : Int) (y56 : Int) : Nat → Bool → Int → Option Int
 | 0, _, _ => none
 | n + 1, all71, s72 =>
  cond (Q3 .lss s72 ((Q1.rows l).length : Int))
  ((idx l s72).bind fun y74 =>
  cond all71
  ((Y7 N y74 y56).bind fun v77 =>
  Xc N k0 l s54 y56 n v77 (wrap .i64 (s72 + 1)))
  (Xc N k0 l s54 y56 n false (wrap .i64 (s72 + 1))))
  (cond all71
  (some y56)
  (k0 (wrap .i64 (s54 + 1))))
def Yx (N : Nat) (l : List Q1) (v1 : List Int) : Nat → Int → Option Int
 | 0, _ => none
 | n + 1, s54 =>
  cond (Q3 .lss s54 ((Qd (cI .i64) v1).length : Int))
  ((idx v1 s54).bind fun y56 =>
  Xc N (Yx N l v1 n) l s54 y56 N true 0)
  (some 0)
def Ua (N : Nat) (kind : Int) (l : List Q1) : Option Int :=
 (Q3t N kind).bind fun v1 =>
 Yx N l v1 N 0
theorem Q3u {N} {kind} {l} {r} (h : Ua N kind l = some r) : pU 137 [.int .i64 kind, .slice 7 (Q1.rows l)] (.int .i64 r) := by
 refine Q2 Zb7 ?_;unfold Ua at h;refine cP h Qaz p1 fun v1 h => ?_;refine lpH (τ := Int) (fun s54 => (.any :: .p (.slice 7 (Q1.rows l)) :: a8 (.any :: .p (.slice 1 (Qd (cI .i64) v1)) :: .p (.int .i64 ((Qd (cI .i64) v1).length : Int)) :: iI s54 :: a16 (a2 (.any :: []))) : List AV)) (fun n0 s54 => Yx N l v1 n0 s54) (0) h fun n0 s54 h => ?_
 first | rw [Yx] at h | simp only [Yx] at h
 rw [cX] at h;refine iR h fun h => ?_;refine xR h fun y56 h => ?_;refine lpH (τ := Bool × Int) (fun ⟨all71, s72⟩ => (.any :: .p (.slice 7 (Q1.rows l)) :: a4 (iI y56 :: .p (.bool all71) :: a2 (.any :: .p (.slice 1 (Qd (cI .i64) v1)) :: .p (.int .i64 ((Qd (cI .i64) v1).length : Int)) :: iI s54 :: a2 (.any :: .p (.slice 7 (Q1.rows l)) :: iI ((Q1.rows l).length : Int) :: iI s72 :: a8 (a4 (.any :: []))))) : List AV)) (fun n1 ⟨all71, s72⟩ => Xc N (Yx N l v1 n0) l s54 y56 n1 all71 s72) (true, 0) h fun n1 ⟨all71, s72⟩ h => ?_
 first | rw [Xc] at h | simp only [Xc] at h
 rw [cX] at h;apply iU h <;> intro h
 ·refine Q1.xR h fun y74 h => ?_;apply iU h <;> intro h
  ·refine cP h Q67 (.cons (Frz.agg' (.cons (.p _) (.cons (.p _) p5))) p1) fun v77 h => ?_;show Exists _;exact ⟨(n1, v77, (wrap .i64 (s72 + 1))), h, Lg _, (fun i => i), X2⟩
  show Exists _;exact ⟨(n1, false, (wrap .i64 (s72 + 1))), h, Lg _, (fun i => i), X2⟩
 refine iL h fun h => ?_;show Exists _;exact ⟨(n0, (wrap .i64 (s54 + 1))), h, Lg _, (fun i => i), X2⟩
def V3 (N : Nat) (f : Q1) : Option Int :=
 (Ua N f.v.Kind [f]).bind fun v1 =>
 some v1
theorem Q1u {N} {f} {r} (h : V3 N f = some r) : pU 102 [.agg (Q1.cells f)] (.int .i64 r) := by
 refine Q2 Qqr ?_;unfold V3 at h;refine cK h Q3u (.cons (.p _) (.cons (Q1.frz_own (l := [f]) rfl trivial sd) .nil)) fun v1 h => ?_;cases h; exact (.p _)
def Xx (rz : Q1 → Int → Option Int) (rv : Q1 → Option Int) (N : Nat) (f : Q1) (code : Int) : Option Int :=
 (Je N code).bind fun v1 =>
 cond (Q3 .eql v1.1.Kind 25)
 ((rv f).bind fun v4 =>
 some v4)
 (cond v1.1.Items
 (cond v1.1.Sized
 (some (wrap .i64 ((wrap .i64 (2 * v1.1.Width)) + f.inner)))
 (some v1.1.Width))
 (cond v1.1.Sized
 (some (wrap .i64 (v1.1.Width + (f.v.Text.length : Int))))
 (some v1.1.Width)))
theorem Q6m {rz : Q1 → Int → Option Int} {rv : Q1 → Option Int} (hy2 : ∀ {f} {code} {r}, rz f code = some r → pU 101 [.agg (Q1.cells f), .int .i64 code] (.int .i64 r)) (hx2 : ∀ {f} {r}, rv f = some r → pU 135 [.agg (Q1.cells f)] (.int .i64 r)) {N} {f} {code} {r} (h : Xx rz rv N f code = some r) : pU 101 [.agg (Q1.cells f), .int .i64 code] (.int .i64 r) := by
 refine Q2 Zg4 ?_;unfold Xx at h;rw [cX] at h;refine cP h Q3x p1 fun v1 h => ?_;apply iU h <;> intro h
 ·refine cP h hx2 (.cons (Frz.agg' (.cons (.p _) (.cons (.p _) p5))) .nil) fun v4 h => ?_;cases h; exact (.p _)
 apply iU h <;> intro h
 ·refine oL h fun hc7 h => ?_;refine ifF hc7 ?_;cases h; exact (.p _)
 exact iB h
def Yh (rz : Q1 → Int → Option Int) (N : Nat) (f : Q1) : Nat → Int → Int → Option Int
 | 0, _, _ => none
 | n + 1, n17, s18 =>
  cond (Q3 .lss s18 ((Q1.rows f.kids).length : Int))
  ((idx f.kids s18).bind fun y20 =>
  (V3 N y20).bind fun v22 =>
  (rz y20 v22).bind fun v24 =>
  Yh rz N f n (wrap .i64 (n17 + (wrap .i64 (1 + v24)))) (wrap .i64 (s18 + 1)))
  (some n17)
def Gz (rz : Q1 → Int → Option Int) (rv : Q1 → Option Int) (N : Nat) (f : Q1) : Option Int :=
 Yh rz N f N 0 0
theorem Q5d {rz : Q1 → Int → Option Int} {rv : Q1 → Option Int} (hy2 : ∀ {f} {code} {r}, rz f code = some r → pU 101 [.agg (Q1.cells f), .int .i64 code] (.int .i64 r)) (hx2 : ∀ {f} {r}, rv f = some r → pU 135 [.agg (Q1.cells f)] (.int .i64 r)) {N} {f} {r} (h : Gz rz rv N f = some r) : pU 135 [.agg (Q1.cells f)] (.int .i64 r) := by
 refine Q2 Z6h ?_;unfold Gz at h;refine lpH (τ := Int × Int) (fun ⟨n17, s18⟩ => (a2 (.any :: iI n17 :: a2 (.any :: .p (.slice 7 (Q1.rows f.kids)) :: iI ((Q1.rows f.kids).length : Int) :: iI s18 :: a8 (a4 ([])))) : List AV)) (fun n0 ⟨n17, s18⟩ => Yh rz N f n0 n17 s18) (0, 0) h fun n0 ⟨n17, s18⟩ h => ?_
 first | rw [Yh] at h | simp only [Yh] at h
 rw [cX] at h;refine iR h fun h => ?_;refine Q1.xR h fun y20 h => ?_;refine Qb ?_;refine cD h Q1u (.cons (Frz.agg' (.cons (.p _) (.cons (.p _) p5))) .nil) fun v22 h => ?_;refine cD h hy2 (.cons (Frz.agg' (.cons (.p _) (.cons (.p _) p5))) p1) fun v24 h => ?_;show Exists _;exact ⟨(n0, (wrap .i64 (n17 + (wrap .i64 (1 + v24)))), (wrap .i64 (s18 + 1))), h, Lg _, (fun i => i), X2⟩
def Zt : Nat → (Q1 → Int → Option Int) × (Q1 → Option Int)
 | 0 => (fun _ _ => none, fun _ => none)
 | N + 1 => (Xx ((Zt N).1) ((Zt N).2) N, Gz ((Zt N).1) ((Zt N).2) N)
def Y6 (N : Nat) : Q1 → Int → Option Int := (Zt N).1
def Y3 (N : Nat) : Q1 → Option Int := (Zt N).2
theorem Q1l : ∀ N, (∀ {f : Q1} {code : Int} {r : Int}, (Zt N).1 f code = some r → pU 101 [.agg (Q1.cells f), .int .i64 code] (.int .i64 r)) ∧ (∀ {f : Q1} {r : Int}, (Zt N).2 f = some r → pU 135 [.agg (Q1.cells f)] (.int .i64 r)) := by
 intro N
 induction N with
 | zero => exact ⟨(fun h => by simp [Zt] at h), (fun h => by simp [Zt] at h)⟩
 | succ N ih => exact ⟨(fun h => Q6m (N := N) (fun h => ih.1 h) (fun h => ih.2 h) h), (fun h => Q5d (N := N) (fun h => ih.1 h) (fun h => ih.2 h) h)⟩
theorem Q1g {N : Nat} {f : Q1} {code : Int} {r : Int} (h : Y6 N f code = some r) : pU 101 [.agg (Q1.cells f), .int .i64 code] (.int .i64 r) := (Q1l N).1 h
theorem U4 {N : Nat} {f : Q1} {r : Int} (h : Y3 N f = some r) : pU 135 [.agg (Q1.cells f)] (.int .i64 r) := (Q1l N).2 h
def Yb (N : Nat) (f : Q1) : Nat → Int → Int → Option Int
 | 0, _, _ => none
 | n + 1, n13, s14 =>
  cond (Q3 .lss s14 ((Q1.rows f.kids).length : Int))
  ((idx f.kids s14).bind fun y16 =>
  (Y6 N y16 f.element).bind fun v18 =>
  Yb N f n (wrap .i64 (n13 + v18)) (wrap .i64 (s14 + 1)))
  (some n13)
def Vw (N : Nat) (f : Q1) : Option Int :=
 Yb N f N 1 0
theorem Q16 {N} {f} {r} (h : Vw N f = some r) : pU 136 [.agg (Q1.cells f)] (.int .i64 r) := by
 refine Q2 Z6m ?_;unfold Vw at h;refine lpH (τ := Int × Int) (fun ⟨n13, s14⟩ => (.any :: .ptr 0 0 :: .any :: iI n13 :: a2 (.any :: .p (.slice 7 (Q1.rows f.kids)) :: iI ((Q1.rows f.kids).length : Int) :: iI s14 :: a8 (a2 (.any :: []))) : List AV)) (fun n0 ⟨n13, s14⟩ => Yb N f n0 n13 s14) (1, 0) h fun n0 ⟨n13, s14⟩ h => ?_
 first | rw [Yb] at h | simp only [Yb] at h
 rw [cX] at h;refine iR h fun h => ?_;refine Q1.xR h fun y16 h => ?_;refine cP h Q1g (.cons (Frz.agg' (.cons (.p _) (.cons (.p _) p5))) p1) fun v18 h => ?_;show Exists _;exact ⟨(n0, (wrap .i64 (n13 + v18)), (wrap .i64 (s14 + 1))), h, Lg _, (fun i => i), X2⟩
end
end
end Go.Av
