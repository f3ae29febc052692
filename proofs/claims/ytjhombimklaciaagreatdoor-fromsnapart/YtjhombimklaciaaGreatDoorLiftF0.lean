/- Part of the proof of FromsnApart: for every input the law returns true; no condition. -/
import Derived.Test.YtjhombimklaciaaGreatDoorLiftTy
import Derived.Test.YtjhombimklaciaaGreatDoorChks
import Derived.Test.YtjhombimklaciaaGreatDoorSeat1
import Derived.Test.YtjhombimklaciaaGreatDoorRegT
import Derived.Test.YtjhombimklaciaaGreatDoorRegC
import Derived.Test.YtjhombimklaciaaGreatDoorClosed5
open Go.IntKind (wrap)
namespace Go.Av
noncomputable section
open Go.Proofs
set_option maxRecDepth 100000
set_option maxHeartbeats 4000000
attribute [local irreducible] Xt Qm Q8b Q6k Qpa Qqk Qfx
section
abbrev pU := Q6d Tryz.prog G1
abbrev gU := GC Tryz.prog G1
def Gs (_N : Nat) : Option Bool := some true
theorem Q1u {N r} (h : Gs N = some r) : pU 4 [] (.bool r) := by cases h; exact Qek Qso (N := 4000) (d := 60) (by kernel_rfl)
def Zt (N : Nat) (l : List Q0) : Nat → Int → Option Bool
 | 0, _ => none
 | n + 1, i17 =>
  cond (Q7 .lss i17 ((Qd Q0.cells l).length : Int))
  ((idx l i17).bind fun y19 =>
  cond (Q7 .gtr (y19.Client.length : Int) 100)
  (some false)
  ((idx l i17).bind fun y22 =>
  cond (Q7 .gtr (y22.Name.length : Int) 200)
  (some false)
  (Zt N l n (wrap .i64 (i17 + 1)))))
  (some (Q7 .leq ((Qd Q0.cells l).length : Int) 20))
def Ws (N : Nat) (l : List Q0) : Option Bool :=
 Zt N l N 0
theorem Q1x {N} {l} {r} (h : Ws N l = some r) : pU 5 [.slice 3 (Qd Q0.cells l)] (.bool r) := by
 refine Q6 k5 ?_;unfold Ws at h;refine lpH (τ := Int) (fun i17 => (.p (.slice 3 (Qd Q0.cells l)) :: .any :: .any :: iI i17 :: a16 (a8 (.any :: [])) : List AV)) (fun n0 i17 => Zt N l n0 i17) (0) h fun n0 i17 h => ?_
 first | rw [Zt] at h | simp only [Zt] at h
 rw [cX] at h;refine iR h fun h => ?_;refine xR h fun y19 h => ?_;refine iL h fun h => ?_;refine xR h fun y22 h => ?_;refine iL h fun h => ?_;show Exists _;exact ⟨(n0, (wrap .i64 (i17 + 1))), h, Lg _, (fun i => i), Zq⟩
def Vw (_N : Nat) (m : Um) : Option Bool :=
 cond (Q7 .leq (m.Name.length : Int) 70000)
 (some (Q7 .leq (m.Data.length : Int) 70000))
 (some false)
theorem Q1b {N} {m} {r} (h : Vw N m = some r) : pU 13 [.agg (Um.cells m)] (.bool r) := by
 refine Q6 k13 ?_;unfold Vw at h;rw [cX] at h;exact iB h
def Z7 (N : Nat) (d : Z9) : Nat → Int → Option Bool
 | 0, _ => none
 | n + 1, i14 =>
  cond (Q7 .lss i14 ((Qd Uh.cells d.Hops).length : Int))
  ((idx d.Hops i14).bind fun y16 =>
  cond (Q7 .gtr (y16.Node.length : Int) 300)
  (some false)
  (Z7 N d n (wrap .i64 (i14 + 1))))
  (some true)
def X7 (N : Nat) (d : Z9) : Option Bool :=
 cond (Q7 .gtr ((Qd Uh.cells d.Hops).length : Int) 8)
 (some false)
 ((Vw N d.Msg).bind fun v2 =>
 cond (!v2)
 (some false)
 (Z7 N d N 0))
theorem Gu {N} {d} {r} (h : X7 N d = some r) : pU 6 [.agg (Z9.cells d)] (.bool r) := by
 refine Q6 k6 ?_;unfold X7 at h;rw [cX] at h;refine iL h fun h => ?_;refine cP h Q1b (.cons (Frz.agg' (f8_ (f2_ (.cons (.p _) p5)))) .nil) fun v2 h => ?_;refine iL h fun h => ?_;refine lpH (τ := Int) (fun i14 => (.any :: .ptr 0 0 :: .any :: iI i14 :: a16 (a8 (.any :: [])) : List AV)) (fun n0 i14 => Z7 N d n0 i14) (0) h fun n0 i14 h => ?_
 first | rw [Z7] at h | simp only [Z7] at h
 rw [cX] at h;refine iR h fun h => ?_;refine xR h fun y16 h => ?_;refine iL h fun h => ?_;show Exists _;exact ⟨(n0, (wrap .i64 (i14 + 1))), h, Lg _, (fun i => i), Zq⟩
def Ud (_N : Nat) (s_0 : List UInt8) : Option Bool :=
 cond (Q7 .geq (s_0.length : Int) 3)
 (cond (Nat.ble 0 3 && Nat.ble 3 s_0.length) (some (Jx .eql ((s_0.take 3).drop 0) [239, 191, 189])) none)
 (some false)
theorem Q5t {N} {s_0} {r} (h : Ud N s_0 = some r) : pU 79 [.str s_0] (.bool r) := by
 refine Q6 k79 ?_;unfold Ud at h;rw [cX, cY] at h;refine iR h fun h => ?_;refine kU h fun h => ?_;cases h; exact (.p _)
def Xa (N : Nat) (s_0 : List UInt8) : Nat → Nat → Option Int
 | 0, _ => none
 | n + 1, pos16 =>
  cond (Nat.blt pos16 s_0.length)
  (cond (Q7 .eql (((Q6c s_0 pos16).1 : Nat) : Int) 0)
  (some ((pos16 : Nat) : Int))
  (cond (Q7 .eql (((Q6c s_0 pos16).1 : Nat) : Int) 65533)
  (cond (Nat.ble pos16 s_0.length && Nat.ble s_0.length s_0.length) ((Ud N ((s_0.take s_0.length).drop pos16)).bind fun v21 =>
  cond (!v21)
  (some ((pos16 : Nat) : Int))
  (Xa N s_0 n (pos16 + (Q6c s_0 pos16).2))) none)
  (Xa N s_0 n (pos16 + (Q6c s_0 pos16).2))))
  (some (-1))
def Q09 (N : Nat) (s_0 : List UInt8) : Option Int :=
 Xa N s_0 N 0
theorem Q7n {N} {s_0} {r} (h : Q09 N s_0 = some r) : pU 65 [.str s_0] (.int .i64 r) := by
 refine Q6 k65 ?_;unfold Q09 at h;refine lpA (τ := Nat) (fun _ => (iS s_0 :: a4 (.any :: .ptr 0 0 :: a16 (a2 ([]))) : List AV)) (fun pos16 => (.strIter s_0 pos16 :: [] : List AObj)) (fun n0 pos16 => Xa N s_0 n0 pos16) (0) h fun n0 pos16 h => ?_
 first | rw [Xa] at h | simp only [Xa] at h
 rw [cX] at h;refine iR h fun h => ?_;refine iL h fun h => ?_;apply iU h <;> intro h
 ·refine kU h fun h => ?_;refine cP h Q5t p1 fun v21 h => ?_;refine iL h fun h => ?_;show Exists _;exact ⟨(n0, (pos16 + (Q6c s_0 pos16).2)), h, Lg _, (fun i => i), Zq⟩
 show Exists _;exact ⟨(n0, (pos16 + (Q6c s_0 pos16).2)), h, Lg _, (fun i => i), Zq⟩
def W9 (N : Nat) (s_0 : List UInt8) : Option Bool :=
 cond (Q7 .leq (s_0.length : Int) 65535)
 ((Q09 N s_0).bind fun v2 =>
 some (Q7 .eql v2 (-1)))
 (some false)
theorem Ji {N} {s_0} {r} (h : W9 N s_0 = some r) : pU 56 [.str s_0] (.bool r) := by
 refine Q6 k56 ?_;unfold W9 at h;rw [cX] at h;refine iR h fun h => ?_;refine cP h Q7n p1 fun v2 h => ?_;cases h; exact (.p _)
def Gr (N : Nat) (s_0 : List UInt8) : Option Bool :=
 cond (Jx .neq s_0 [])
 ((W9 N s_0).bind fun v2 =>
 some v2)
 (some false)
theorem Q38 {N} {s_0} {r} (h : Gr N s_0 = some r) : pU 45 [.str s_0] (.bool r) := by
 refine Q6 k45 ?_;unfold Gr at h;rw [cY] at h;refine iR h fun h => ?_;refine cP h Ji p1 fun v2 h => ?_;cases h; exact (.p _)
def Zc (_N : Nat) (s_0 : List UInt8) (c : Int) : Option Int :=
 some (Qc5 s_0 (UInt8.ofNat (Int.toNat c)) 0 : Int)
theorem Wh {N} {s_0} {c} {r} (h : Zc N s_0 c = some r) : pU 90 [.str s_0, .int .u8 c] (.int .i64 r) := by
 refine Q6 k90 ?_;unfold Zc at h;cases h; exact (.p _)
def Vp (N : Nat) (s_0 : List UInt8) (c : Int) : Option Int :=
 (Zc N s_0 c).bind fun v1 =>
 some v1
theorem Jt {N} {s_0} {c} {r} (h : Vp N s_0 c = some r) : pU 80 [.str s_0, .int .u8 c] (.int .i64 r) := by
 refine Q6 k80 ?_;unfold Vp at h;refine cP h Wh p2 fun v1 h => ?_;cases h; exact (.p _)
def Yy (_N : Nat) (r_0 : Int) : Option Bool :=
 cond (Q7 .leq 0 r_0)
 (cond (Q7 .lss r_0 55296)
 (some true)
 (cond (Q7 .lss 57343 r_0)
 (cond (Q7 .leq r_0 1114111)
 (some true)
 (some false))
 (some false)))
 (cond (Q7 .lss 57343 r_0)
 (cond (Q7 .leq r_0 1114111)
 (some true)
 (some false))
 (some false))
theorem Q0u {N} {r_0} {r} (h : Yy N r_0 = some r) : pU 81 [.int .i32 r_0] (.bool r) := by
 refine Q6 k81 ?_;unfold Yy at h;rw [cX] at h;apply iU h <;> intro h
 ·refine iL h fun h => ?_;refine iR h fun h => ?_;exact iB h
 refine iR h fun h => ?_;exact iB h
def Zk (N : Nat) (s_0 : List UInt8) : Nat → Nat → Option Int
 | 0, _ => none
 | n + 1, pos13 =>
  cond (Nat.blt pos13 s_0.length)
  (cond (Q7 .eql (((Q6c s_0 pos13).1 : Nat) : Int) 65533)
  (some ((pos13 : Nat) : Int))
  (Zk N s_0 n (pos13 + (Q6c s_0 pos13).2)))
  (some (-1))
def Xe (N : Nat) (s_0 : List UInt8) (r_1 : Int) (v82 : Int) : Nat → Int → Option Int
 | 0, _ => none
 | n + 1, j98 =>
  cond (Q7 .lss j98 (((Utf8.encode r_1).data.toList).length : Int))
  ((idx s_0 (wrap .i64 ((wrap .i64 ((wrap .i64 ((((Utf8.encode r_1).data.toList).length : Int) - 1)) + (wrap .i64 (v82 + 1)))) - j98))).bind fun b100 =>
  (idx ((Utf8.encode r_1).data.toList) (wrap .i64 ((wrap .i64 ((((Utf8.encode r_1).data.toList).length : Int) - 1)) - j98))).bind fun b102 =>
  cond (Q7 .neq (b100.toNat : Int) (b102.toNat : Int))
  (none)
  (Xe N s_0 r_1 v82 n (wrap .i64 (j98 + 1))))
  (some (wrap .i64 ((wrap .i64 ((wrap .i64 ((((Utf8.encode r_1).data.toList).length : Int) - 1)) + (wrap .i64 (v82 + 1)))) - (wrap .i64 ((((Utf8.encode r_1).data.toList).length : Int) - 1)))))
def Xd (N : Nat) (s_0 : List UInt8) (r_1 : Int) : Nat → Int → Option Int
 | 0, _ => none
 | n + 1, j118 =>
  cond (Q7 .lss j118 (((Utf8.encode r_1).data.toList).length : Int))
  ((idx s_0 (wrap .i64 ((wrap .i64 ((((Utf8.encode r_1).data.toList).length : Int) - 1)) - j118))).bind fun b120 =>
  (idx ((Utf8.encode r_1).data.toList) (wrap .i64 ((wrap .i64 ((((Utf8.encode r_1).data.toList).length : Int) - 1)) - j118))).bind fun b122 =>
  cond (Q7 .neq (b120.toNat : Int) (b122.toNat : Int))
  (none)
  (Xd N s_0 r_1 n (wrap .i64 (j118 + 1))))
  (some (wrap .i64 ((wrap .i64 ((((Utf8.encode r_1).data.toList).length : Int) - 1)) - (wrap .i64 ((((Utf8.encode r_1).data.toList).length : Int) - 1)))))
def Yn (N : Nat) (s_0 : List UInt8) (r_1 : Int) : Nat → Option Int
 | 0 => none
 | n + 1 =>
  cond (Q7 .lss (wrap .i64 ((((Utf8.encode r_1).data.toList).length : Int) - 1)) (s_0.length : Int))
  ((idx s_0 (wrap .i64 ((((Utf8.encode r_1).data.toList).length : Int) - 1))).bind fun b73 =>
  (idx ((Utf8.encode r_1).data.toList) (wrap .i64 ((((Utf8.encode r_1).data.toList).length : Int) - 1))).bind fun b75 =>
  cond (Q7 .neq (b73.toNat : Int) (b75.toNat : Int))
  (cond (decide (0 ≤ (wrap .i64 ((wrap .i64 ((((Utf8.encode r_1).data.toList).length : Int) - 1)) + 1)))) (cond (Nat.ble (wrap .i64 ((wrap .i64 ((((Utf8.encode r_1).data.toList).length : Int) - 1)) + 1)).toNat s_0.length && Nat.ble s_0.length s_0.length) ((idx ((Utf8.encode r_1).data.toList) (wrap .i64 ((((Utf8.encode r_1).data.toList).length : Int) - 1))).bind fun b80 =>
  (Vp N ((s_0.take s_0.length).drop ((wrap .i64 ((wrap .i64 ((((Utf8.encode r_1).data.toList).length : Int) - 1)) + 1)).toNat)) (b80.toNat : Int)).bind fun v82 =>
  cond (Q7 .lss v82 0)
  (some (-1))
  (Xe N s_0 r_1 v82 N 1)) none) none)
  (Xd N s_0 r_1 N 1))
  (some (-1))
def Xf (N : Nat) (s_0 : List UInt8) (r_1 : Int) (s2 : Bool) : Option Int :=
 cond s2
 ((Vp N s_0 (wrap .u8 r_1)).bind fun v5 =>
 some v5)
 (cond (Q7 .eql r_1 65533)
 (Zk N s_0 N 0)
 ((Yy N r_1).bind fun v16 =>
 cond (!v16)
 (some (-1))
 (Yn N s_0 r_1 N)))
def Vi (N : Nat) (s_0 : List UInt8) (r_1 : Int) : Option Int :=
 cond (Q7 .leq 0 r_1)
 (Xf N s_0 r_1 (Q7 .lss r_1 128))
 (Xf N s_0 r_1 false)
theorem Q30 {N} {s_0} {r_1} {r} (h : Vi N s_0 r_1 = some r) : pU 66 [.str s_0, .int .i32 r_1] (.int .i64 r) := by
 refine Q6 k66 ?_;unfold Vi at h;rw [cX] at h;refine jrH (r := r) (σ := Bool) (fun s2 => (iS s_0 :: .p (.int .i32 r_1) :: a16 (a16 (a16 (a16 (a16 (a16 (a16 (a16 (a16 (a8 (a4 (a2 (.p (.bool s2) :: a16 (a8 (a2 ([]))))))))))))))) : List AV)) (fun s2 => Xf N s_0 r_1 s2) ?_ ?_
 ·apply iU h <;> intro h
  ·show Exists _;exact ⟨((Qri .lss r_1 128)), h, (fun i => i), Zq⟩
  show Exists _;exact ⟨(false), h, (fun i => i), Zq⟩
 rintro s2 h
 unfold Xf at h;rw [cX] at h;apply iU h <;> intro h
 ·refine cP h Jt p2 fun v5 h => ?_;cases h; exact (.p _)
 apply iU h <;> intro h
 ·refine lpA (τ := Nat) (fun _ => (a16 (a16 (a16 (a16 (a16 (a16 (a16 (a16 (a16 (a16 (a8 (a4 (a2 (.any :: .ptr 0 0 :: a8 (a2 (.any :: []))))))))))))))) : List AV)) (fun pos13 => (.strIter s_0 pos13 :: [] : List AObj)) (fun n1 pos13 => Zk N s_0 n1 pos13) (0) h fun n1 pos13 h => ?_
  first | rw [Zk] at h | simp only [Zk] at h
  rw [cX] at h;refine iR h fun h => ?_;refine iL h fun h => ?_;show Exists _;exact ⟨(n1, (pos13 + (Q6c s_0 pos13).2)), h, Lg _, (fun i => i), Zq⟩
 refine cP h Q0u p1 fun v16 h => ?_;refine iL h fun h => ?_;refine lpH (τ := Unit) (fun _ => (iS s_0 :: a4 (a2 (iS ((Utf8.encode r_1).data.toList) :: .p (.int .i64 (wrap .i64 ((((Utf8.encode r_1).data.toList).length : Int) - 1))) :: .p (.int .i64 (wrap .i64 ((((Utf8.encode r_1).data.toList).length : Int) - 1))) :: a16 (a16 (a16 (a16 (a16 (a16 (a16 (a16 (a16 (a16 (a16 (.any :: []))))))))))))) : List AV)) (fun n2 ⟨⟩ => Yn N s_0 r_1 n2) () h fun n2 ⟨⟩ h => ?_
 first | rw [Yn] at h | simp only [Yn] at h
 rw [cX] at h;refine iR h fun h => ?_;refine Qi ?_;refine xB h fun b73 h => ?_;refine xB h fun b75 h => ?_;apply iU h <;> intro h
 ·refine Qi ?_;refine kU h fun h => ?_;refine kU h fun h => ?_;refine xB h fun b80 h => ?_;refine cD h Jt p2 fun v82 h => ?_;refine iL h fun h => ?_;refine lpH (τ := Int) (fun j98 => (iS s_0 :: a4 (a2 (iS ((Utf8.encode r_1).data.toList) :: .p (.int .i64 (wrap .i64 ((((Utf8.encode r_1).data.toList).length : Int) - 1))) :: .p (.int .i64 (wrap .i64 ((wrap .i64 ((((Utf8.encode r_1).data.toList).length : Int) - 1)) + (wrap .i64 (v82 + 1))))) :: .any :: .any :: iI j98 :: a16 (a16 (a16 (a16 (a16 (a16 (a16 (a16 (a16 (a16 (a8 (a4 (a2 ([]))))))))))))))) : List AV)) (fun n3 j98 => Xe N s_0 r_1 v82 n3 j98) (1) h fun n3 j98 h => ?_
  first | rw [Xe] at h | simp only [Xe] at h
  rw [cX] at h;refine iR h fun h => ?_;refine Qi ?_;refine xB h fun b100 h => ?_;refine xB h fun b102 h => ?_;apply iU h <;> intro h
  ·first | (cases h; done) | (simp [Qkb] at h; done)
  show Exists _;exact ⟨(n3, (wrap .i64 (j98 + 1))), h, Lg _, (fun i => i), Zq⟩
 refine lpH (τ := Int) (fun j118 => (iS s_0 :: a4 (a2 (iS ((Utf8.encode r_1).data.toList) :: .p (.int .i64 (wrap .i64 ((((Utf8.encode r_1).data.toList).length : Int) - 1))) :: .p (.int .i64 (wrap .i64 ((((Utf8.encode r_1).data.toList).length : Int) - 1))) :: .any :: .any :: iI j118 :: a16 (a16 (a16 (a16 (a16 (a16 (a16 (a16 (a16 (a16 (a8 (a4 (a2 ([]))))))))))))))) : List AV)) (fun n4 j118 => Xd N s_0 r_1 n4 j118) (1) h fun n4 j118 h => ?_
 first | rw [Xd] at h | simp only [Xd] at h
 rw [cX] at h;refine iR h fun h => ?_;refine Qi ?_;refine xB h fun b120 h => ?_;refine xB h fun b122 h => ?_;apply iU h <;> intro h
 ·first | (cases h; done) | (simp [Qkb] at h; done)
 show Exists _;exact ⟨(n4, (wrap .i64 (j118 + 1))), h, Lg _, (fun i => i), Zq⟩
def We (_N : Nat) (bufLen : Int) : Option Bool :=
 some (Q7 .gtr bufLen 8)
theorem Gq {N} {bufLen} {r} (h : We N bufLen = some r) : pU 67 [.int .i64 bufLen] (.bool r) := by
 refine Q6 k67 ?_;unfold We at h;rw [cX] at h;cases h; exact (.p _)
def Ya (N : Nat) (s_0 : List UInt8) : Nat → Int → Option Int
 | 0, _ => none
 | n + 1, i20 =>
  cond (Q7 .lss i20 (s_0.length : Int))
  ((idx s_0 i20).bind fun b22 =>
  cond (decide (0 ≤ (b22.toNat : Int)) && decide ((b22.toNat : Int) < ((256 : Nat) : Int))) ((idx ([false, false, false, false, false, false, false, false, false, false, false, false, false, false, false, false, false, false, false, false, false, false, false, false, false, false, false, false, false, false, false, false, false, false, false, true, false, false, false, false, false, false, false, true, false, false, false, false, false, false, false, false, false, false, false, false, false, false, false, false, false, false, false, false, false, false, false, false, false, false, false, false, false, false, false, false, false, false, false, false, false, false, false, false, false, false, false, false, false, false, false, false, false, false, false, false, false, false, false, false, false, false, false, false, false, false, false, false, false, false, false, false, false, false, false, false, false, false, false, false, false, false, false, false, false, false, false, false, false, false, false, false, false, false, false, false, false, false, false, false, false, false, false, false, false, false, false, false, false, false, false, false, false, false, false, false, false, false, false, false, false, false, false, false, false, false, false, false, false, false, false, false, false, false, false, false, false, false, false, false, false, false, false, false, false, false, false, false, false, false, false, false, false, false, false, false, false, false, false, false, false, false, false, false, false, false, false, false, false, false, false, false, false, false, false, false, false, false, false, false, false, false, false, false, false, false, false, false, false, false, false, false, false, false, false, false, false, false, false, false, false, false, false, false, false, false, false, false, false, false, false, false, false, false, false, false] : List Bool) (b22.toNat : Int)).bind fun y24 =>
  cond y24
  (some i20)
  (Ya N s_0 n (wrap .i64 (i20 + 1)))) none)
  (some (-1))
def Yb (N : Nat) (s_0 : List UInt8) : Nat → Nat → Option Int
 | 0, _ => none
 | n + 1, pos37 =>
  cond (Nat.blt pos37 s_0.length)
  ((Vi N [43, 35] (((Q6c s_0 pos37).1 : Nat) : Int)).bind fun v39 =>
  cond (Q7 .geq v39 0)
  (some ((pos37 : Nat) : Int))
  (Yb N s_0 n (pos37 + (Q6c s_0 pos37).2)))
  (some (-1))
def Wv (N : Nat) (s_0 : List UInt8) : Option Int :=
 cond (Jx .eql [43, 35] [])
 (some (-1))
 ((We N (s_0.length : Int)).bind fun v2 =>
 cond v2
 (Ya N s_0 N 0)
 (Yb N s_0 N 0))
theorem Q1q {N} {s_0} {r} (h : Wv N s_0 = some r) : pU 57 [.str s_0, .str [43, 35]] (.int .i64 r) := by
 refine Q6 k57 ?_;unfold Wv at h;rw [cY] at h;refine iL h fun h => ?_;refine dF ?_;refine cP h Gq p1 fun v2 h => ?_;apply iU h <;> intro h
 ·refine Q8 k68 ?_;refine Qx 4 ?_;refine dT ?_;refine dF ?_;refine dT ?_;refine dF ?_;refine dF ?_;refine lpH (τ := Int) (fun i20 => (iS s_0 :: a4 (.any :: .ptr 1 0 :: .any :: iI i20 :: a16 (a16 (a8 (a4 (a2 ([])))))) : List AV)) (fun n0 i20 => Ya N s_0 n0 i20) (0) h fun n0 i20 h => ?_
  first | rw [Ya] at h | simp only [Ya] at h
  rw [cX] at h;refine iR h fun h => ?_;refine xB h fun b22 h => ?_;refine Q8 k69 ?_;refine kU h fun h => ?_;obtain ⟨y24, hy25, h⟩ := Ux h
  refine Q3n (c := cB) (e := 1) (fun _ => rfl) hy25 (off := 0) (by decide) (by first | omega | (simp only [Q05, orI, Qa5, Wn, Q10, Q46]; omega)) ?_
  refine iL h fun h => ?_;show Exists _;exact ⟨(n0, (wrap .i64 (i20 + 1))), h, Lg _, (fun i => i), Zq⟩
 refine lpA (τ := Nat) (fun _ => (.any :: .p (.str [43, 35]) :: a16 (a16 (a8 (a2 (.any :: .ptr 0 0 :: a8 (.any :: []))))) : List AV)) (fun pos37 => (.strIter s_0 pos37 :: [] : List AObj)) (fun n1 pos37 => Yb N s_0 n1 pos37) (0) h fun n1 pos37 h => ?_
 first | rw [Yb] at h | simp only [Yb] at h
 rw [cX] at h;refine iR h fun h => ?_;refine cP h Q30 p2 fun v39 h => ?_;refine iL h fun h => ?_;show Exists _;exact ⟨(n1, (pos37 + (Q6c s_0 pos37).2)), h, Lg _, (fun i => i), Zq⟩
def Zl (N : Nat) (s_0 : List UInt8) : Option Bool :=
 (Wv N s_0).bind fun v1 =>
 some (Q7 .geq v1 0)
theorem Wd {N} {s_0} {r} (h : Zl N s_0 = some r) : pU 46 [.str s_0, .str [43, 35]] (.bool r) := by
 refine Q6 k46 ?_;unfold Zl at h;rw [cX] at h;refine cP h Q1q p2 fun v1 h => ?_;cases h; exact (.p _)
def W6 (N : Nat) (s_0 : List UInt8) : Option Bool :=
 (Gr N s_0).bind fun v1 =>
 cond v1
 ((Zl N s_0).bind fun v4 =>
 some (!v4))
 (some false)
theorem V9 {N} {s_0} {r} (h : W6 N s_0 = some r) : pU 30 [.str s_0] (.bool r) := by
 refine Q6 k30 ?_;unfold W6 at h;refine cP h Q38 p1 fun v1 h => ?_;refine iR h fun h => ?_;refine cP h Wd p2 fun v4 h => ?_;cases h; exact (.p _)
def Vt (N : Nat) (R : Reg) (c n : List UInt8) : Option ((Int × Bool × Int) × Reg) := (W6 N n).bind fun b => if WR R then some (Qiv b R c n) else none
theorem Q1i {N R c n r} (h : Vt N R c n = some r) : Q1h Tryz.prog G1 16 R [.str c, .str n] (.tuple [.int .i64 r.1.1, .bool r.1.2.1, .int .i64 r.1.2.2]) r.2 := by
 obtain ⟨b, hb, h⟩ := Ux h;split at h
 ·cases h; exact Qra (by assumption) (V9 hb)
 cases h
def Zb (_N : Nat) (s_0 : List UInt8) (at_1 : Int) : Option (Int × Bool) :=
 cond (Q7 .geq at_1 (s_0.length : Int))
 (some (0, false))
 ((idx s_0 at_1).bind fun b2 =>
 cond (Q7 .lss (b2.toNat : Int) 128)
 (some (0, false))
 ((idx s_0 at_1).bind fun b5 =>
 cond (Q7 .gtr (b5.toNat : Int) 191)
 (some (0, false))
 ((idx s_0 at_1).bind fun b8 =>
 some ((wrap .i64 ((wrap .i64 (b8.toNat : Int)) - 128)), true))))
theorem Zy {N} {s_0} {at_1} {r} (h : Zb N s_0 at_1 = some r) : pU 84 [.str s_0, .int .i64 at_1] (.tuple [.int .i64 r.1, .bool r.2]) := by
 refine Q6 k84 ?_;unfold Zb at h;rw [cX] at h;refine iL2 h fun h => ?_;refine xB h fun b2 h => ?_;refine iL2 h fun h => ?_;refine xB h fun b5 h => ?_;refine iL2 h fun h => ?_;refine xB h fun b8 h => ?_;obtain rfl := Qj h; exact u2
def Qq (N : Nat) (s_0 : List UInt8) (at_1 : Int) : Nat → Int → Int → Option (Int × Int)
 | 0, _, _ => none
 | n + 1, n15, i17 =>
  cond (Q7 .lss i17 2)
  ((Zb N s_0 (wrap .i64 (at_1 + i17))).bind fun v19 =>
  cond (!v19.2)
  (some (0, 0))
  (Qq N s_0 at_1 n (wrap .i64 ((wrap .i64 (64 * n15)) + v19.1)) (wrap .i64 (i17 + 1))))
  (cond (Q7 .lss n15 128)
  (some (0, 0))
  (cond (Q7 .gtr n15 1114111)
  (some (0, 0))
  (cond (Q7 .geq n15 55296)
  (cond (Q7 .leq n15 57343)
  (some (0, 0))
  (some (n15, 2)))
  (some (n15, 2)))))
def Qr (N : Nat) (s_0 : List UInt8) (at_1 : Int) : Nat → Int → Int → Option (Int × Int)
 | 0, _, _ => none
 | n + 1, n38, i39 =>
  cond (Q7 .lss i39 3)
  ((Zb N s_0 (wrap .i64 (at_1 + i39))).bind fun v41 =>
  cond (!v41.2)
  (some (0, 0))
  (Qr N s_0 at_1 n (wrap .i64 ((wrap .i64 (64 * n38)) + v41.1)) (wrap .i64 (i39 + 1))))
  (cond (Q7 .lss n38 2048)
  (some (0, 0))
  (cond (Q7 .gtr n38 1114111)
  (some (0, 0))
  (cond (Q7 .geq n38 55296)
  (cond (Q7 .leq n38 57343)
  (some (0, 0))
  (some (n38, 3)))
  (some (n38, 3)))))
def Qs (N : Nat) (s_0 : List UInt8) (at_1 : Int) : Nat → Int → Int → Option (Int × Int)
 | 0, _, _ => none
 | n + 1, n59, i60 =>
  cond (Q7 .lss i60 4)
  ((Zb N s_0 (wrap .i64 (at_1 + i60))).bind fun v62 =>
  cond (!v62.2)
  (some (0, 0))
  (Qs N s_0 at_1 n (wrap .i64 ((wrap .i64 (64 * n59)) + v62.1)) (wrap .i64 (i60 + 1))))
  (cond (Q7 .lss n59 65536)
  (some (0, 0))
  (cond (Q7 .gtr n59 1114111)
  (some (0, 0))
  (cond (Q7 .geq n59 55296)
  (cond (Q7 .leq n59 57343)
  (some (0, 0))
  (some (n59, 4)))
  (some (n59, 4)))))
def Yr (N : Nat) (s_0 : List UInt8) (at_1 : Int) : Nat → Int → Int → Option (Int × Int)
 | 0, _, _ => none
 | n + 1, n80, i81 =>
  cond (Q7 .lss i81 4)
  ((Zb N s_0 (wrap .i64 (at_1 + i81))).bind fun v83 =>
  cond (!v83.2)
  (some (0, 0))
  (Yr N s_0 at_1 n (wrap .i64 ((wrap .i64 (64 * n80)) + v83.1)) (wrap .i64 (i81 + 1))))
  (cond (Q7 .lss n80 65536)
  (some (0, 0))
  (cond (Q7 .gtr n80 1114111)
  (some (0, 0))
  (cond (Q7 .geq n80 55296)
  (cond (Q7 .leq n80 57343)
  (some (0, 0))
  (some (n80, 4)))
  (some (n80, 4)))))
def Yw (N : Nat) (s_0 : List UInt8) (at_1 : Int) : Nat → Int → Int → Option (Int × Int)
 | 0, _, _ => none
 | n + 1, n101, i102 =>
  cond (Q7 .lss i102 3)
  ((Zb N s_0 (wrap .i64 (at_1 + i102))).bind fun v104 =>
  cond (!v104.2)
  (some (0, 0))
  (Yw N s_0 at_1 n (wrap .i64 ((wrap .i64 (64 * n101)) + v104.1)) (wrap .i64 (i102 + 1))))
  (cond (Q7 .lss n101 2048)
  (some (0, 0))
  (cond (Q7 .gtr n101 1114111)
  (some (0, 0))
  (cond (Q7 .geq n101 55296)
  (cond (Q7 .leq n101 57343)
  (some (0, 0))
  (some (n101, 3)))
  (some (n101, 3)))))
def Yz (N : Nat) (s_0 : List UInt8) (at_1 : Int) : Nat → Int → Int → Option (Int × Int)
 | 0, _, _ => none
 | n + 1, n122, i123 =>
  cond (Q7 .lss i123 4)
  ((Zb N s_0 (wrap .i64 (at_1 + i123))).bind fun v125 =>
  cond (!v125.2)
  (some (0, 0))
  (Yz N s_0 at_1 n (wrap .i64 ((wrap .i64 (64 * n122)) + v125.1)) (wrap .i64 (i123 + 1))))
  (cond (Q7 .lss n122 65536)
  (some (0, 0))
  (cond (Q7 .gtr n122 1114111)
  (some (0, 0))
  (cond (Q7 .geq n122 55296)
  (cond (Q7 .leq n122 57343)
  (some (0, 0))
  (some (n122, 4)))
  (some (n122, 4)))))
def Yv (N : Nat) (s_0 : List UInt8) (at_1 : Int) : Nat → Int → Int → Option (Int × Int)
 | 0, _, _ => none
 | n + 1, n143, i144 =>
  cond (Q7 .lss i144 4)
  ((Zb N s_0 (wrap .i64 (at_1 + i144))).bind fun v146 =>
  cond (!v146.2)
  (some (0, 0))
  (Yv N s_0 at_1 n (wrap .i64 ((wrap .i64 (64 * n143)) + v146.1)) (wrap .i64 (i144 + 1))))
  (cond (Q7 .lss n143 65536)
  (some (0, 0))
  (cond (Q7 .gtr n143 1114111)
  (some (0, 0))
  (cond (Q7 .geq n143 55296)
  (cond (Q7 .leq n143 57343)
  (some (0, 0))
  (some (n143, 4)))
  (some (n143, 4)))))
def X0 (N : Nat) (s_0 : List UInt8) (at_1 : Int) : Option (Int × Int) :=
 (idx s_0 at_1).bind fun b1 =>
 cond (Q7 .lss (wrap .i64 (b1.toNat : Int)) 128)
 (some ((wrap .i64 (b1.toNat : Int)), 1))
 (cond (Q7 .geq (wrap .i64 (b1.toNat : Int)) 192)
 (cond (Q7 .lss (wrap .i64 (b1.toNat : Int)) 224)
 (Qq N s_0 at_1 N (wrap .i64 ((wrap .i64 (b1.toNat : Int)) - 192)) 1)
 (cond (Q7 .geq (wrap .i64 (b1.toNat : Int)) 224)
 (cond (Q7 .lss (wrap .i64 (b1.toNat : Int)) 240)
 (Qr N s_0 at_1 N (wrap .i64 ((wrap .i64 (b1.toNat : Int)) - 224)) 1)
 (cond (Q7 .geq (wrap .i64 (b1.toNat : Int)) 240)
 (cond (Q7 .lss (wrap .i64 (b1.toNat : Int)) 248)
 (Qs N s_0 at_1 N (wrap .i64 ((wrap .i64 (b1.toNat : Int)) - 240)) 1)
 (some (0, 0)))
 (some (0, 0))))
 (cond (Q7 .geq (wrap .i64 (b1.toNat : Int)) 240)
 (cond (Q7 .lss (wrap .i64 (b1.toNat : Int)) 248)
 (Yr N s_0 at_1 N (wrap .i64 ((wrap .i64 (b1.toNat : Int)) - 240)) 1)
 (some (0, 0)))
 (some (0, 0)))))
 (cond (Q7 .geq (wrap .i64 (b1.toNat : Int)) 224)
 (cond (Q7 .lss (wrap .i64 (b1.toNat : Int)) 240)
 (Yw N s_0 at_1 N (wrap .i64 ((wrap .i64 (b1.toNat : Int)) - 224)) 1)
 (cond (Q7 .geq (wrap .i64 (b1.toNat : Int)) 240)
 (cond (Q7 .lss (wrap .i64 (b1.toNat : Int)) 248)
 (Yz N s_0 at_1 N (wrap .i64 ((wrap .i64 (b1.toNat : Int)) - 240)) 1)
 (some (0, 0)))
 (some (0, 0))))
 (cond (Q7 .geq (wrap .i64 (b1.toNat : Int)) 240)
 (cond (Q7 .lss (wrap .i64 (b1.toNat : Int)) 248)
 (Yv N s_0 at_1 N (wrap .i64 ((wrap .i64 (b1.toNat : Int)) - 240)) 1)
 (some (0, 0)))
 (some (0, 0)))))
theorem Q1m {N} {s_0} {at_1} {r} (h : X0 N s_0 at_1 = some r) : pU 70 [.str s_0, .int .i64 at_1] (.tuple [.int .i64 r.1, .int .i64 r.2]) := by
 refine Q6 k70 ?_;unfold X0 at h;rw [cX] at h;refine xB h fun b1 h => ?_;refine iL2 h fun h => ?_;apply iU h <;> intro h
 ·apply iU h <;> intro h
  ·refine lpH (τ := Int × Int) (fun ⟨n15, i17⟩ => (iS s_0 :: iI at_1 :: a4 (iI n15 :: iI 2 :: iI 128 :: iI i17 :: a16 (a16 (a16 (a16 (a8 (.any :: [])))))) : List AV)) (fun n0 ⟨n15, i17⟩ => Qq N s_0 at_1 n0 n15 i17) ((wrap .i64 ((wrap .i64 (b1.toNat : Int)) - 192)), 1) h fun n0 ⟨n15, i17⟩ h => ?_
   first | rw [Qq] at h | simp only [Qq] at h
   rw [cX] at h;apply iU h <;> intro h
   ·refine cP h Zy p2 fun v19 h => ?_;refine iL2 h fun h => ?_;show Exists _;exact ⟨(n0, (wrap .i64 ((wrap .i64 (64 * n15)) + v19.1)), (wrap .i64 (i17 + 1))), h, Lg _, (fun i => i), Zq⟩
   refine iL2 h fun h => ?_;refine iL2 h fun h => ?_;refine iR2 h fun h => ?_;exact iB2 h
  apply iU h <;> intro h
  ·apply iU h <;> intro h
   ·refine lpH (τ := Int × Int) (fun ⟨n38, i39⟩ => (iS s_0 :: iI at_1 :: a4 (iI n38 :: iI 3 :: iI 2048 :: iI i39 :: a16 (a16 (a16 (a16 (a8 (.any :: [])))))) : List AV)) (fun n1 ⟨n38, i39⟩ => Qr N s_0 at_1 n1 n38 i39) ((wrap .i64 ((wrap .i64 (b1.toNat : Int)) - 224)), 1) h fun n1 ⟨n38, i39⟩ h => ?_
    first | rw [Qr] at h | simp only [Qr] at h
    rw [cX] at h;apply iU h <;> intro h
    ·refine cP h Zy p2 fun v41 h => ?_;refine iL2 h fun h => ?_;show Exists _;exact ⟨(n1, (wrap .i64 ((wrap .i64 (64 * n38)) + v41.1)), (wrap .i64 (i39 + 1))), h, Lg _, (fun i => i), Zq⟩
    refine iL2 h fun h => ?_;refine iL2 h fun h => ?_;refine iR2 h fun h => ?_;exact iB2 h
   refine iR2 h fun h => ?_;refine iR2 h fun h => ?_;refine lpH (τ := Int × Int) (fun ⟨n59, i60⟩ => (iS s_0 :: iI at_1 :: a4 (iI n59 :: iI 4 :: iI 65536 :: iI i60 :: a16 (a16 (a16 (a16 (a8 (.any :: [])))))) : List AV)) (fun n2 ⟨n59, i60⟩ => Qs N s_0 at_1 n2 n59 i60) ((wrap .i64 ((wrap .i64 (b1.toNat : Int)) - 240)), 1) h fun n2 ⟨n59, i60⟩ h => ?_
   first | rw [Qs] at h | simp only [Qs] at h
   rw [cX] at h;apply iU h <;> intro h
   ·refine cP h Zy p2 fun v62 h => ?_;refine iL2 h fun h => ?_;show Exists _;exact ⟨(n2, (wrap .i64 ((wrap .i64 (64 * n59)) + v62.1)), (wrap .i64 (i60 + 1))), h, Lg _, (fun i => i), Zq⟩
   refine iL2 h fun h => ?_;refine iL2 h fun h => ?_;refine iR2 h fun h => ?_;exact iB2 h
  refine iR2 h fun h => ?_;refine iR2 h fun h => ?_;refine lpH (τ := Int × Int) (fun ⟨n80, i81⟩ => (iS s_0 :: iI at_1 :: a4 (iI n80 :: iI 4 :: iI 65536 :: iI i81 :: a16 (a16 (a16 (a16 (a8 (.any :: [])))))) : List AV)) (fun n3 ⟨n80, i81⟩ => Yr N s_0 at_1 n3 n80 i81) ((wrap .i64 ((wrap .i64 (b1.toNat : Int)) - 240)), 1) h fun n3 ⟨n80, i81⟩ h => ?_
  first | rw [Yr] at h | simp only [Yr] at h
  rw [cX] at h;apply iU h <;> intro h
  ·refine cP h Zy p2 fun v83 h => ?_;refine iL2 h fun h => ?_;show Exists _;exact ⟨(n3, (wrap .i64 ((wrap .i64 (64 * n80)) + v83.1)), (wrap .i64 (i81 + 1))), h, Lg _, (fun i => i), Zq⟩
  refine iL2 h fun h => ?_;refine iL2 h fun h => ?_;refine iR2 h fun h => ?_;exact iB2 h
 apply iU h <;> intro h
 ·apply iU h <;> intro h
  ·refine lpH (τ := Int × Int) (fun ⟨n101, i102⟩ => (iS s_0 :: iI at_1 :: a4 (iI n101 :: iI 3 :: iI 2048 :: iI i102 :: a16 (a16 (a16 (a16 (a8 (.any :: [])))))) : List AV)) (fun n4 ⟨n101, i102⟩ => Yw N s_0 at_1 n4 n101 i102) ((wrap .i64 ((wrap .i64 (b1.toNat : Int)) - 224)), 1) h fun n4 ⟨n101, i102⟩ h => ?_
   first | rw [Yw] at h | simp only [Yw] at h
   rw [cX] at h;apply iU h <;> intro h
   ·refine cP h Zy p2 fun v104 h => ?_;refine iL2 h fun h => ?_;show Exists _;exact ⟨(n4, (wrap .i64 ((wrap .i64 (64 * n101)) + v104.1)), (wrap .i64 (i102 + 1))), h, Lg _, (fun i => i), Zq⟩
   refine iL2 h fun h => ?_;refine iL2 h fun h => ?_;refine iR2 h fun h => ?_;exact iB2 h
  refine iR2 h fun h => ?_;refine iR2 h fun h => ?_;refine lpH (τ := Int × Int) (fun ⟨n122, i123⟩ => (iS s_0 :: iI at_1 :: a4 (iI n122 :: iI 4 :: iI 65536 :: iI i123 :: a16 (a16 (a16 (a16 (a8 (.any :: [])))))) : List AV)) (fun n5 ⟨n122, i123⟩ => Yz N s_0 at_1 n5 n122 i123) ((wrap .i64 ((wrap .i64 (b1.toNat : Int)) - 240)), 1) h fun n5 ⟨n122, i123⟩ h => ?_
  first | rw [Yz] at h | simp only [Yz] at h
  rw [cX] at h;apply iU h <;> intro h
  ·refine cP h Zy p2 fun v125 h => ?_;refine iL2 h fun h => ?_;show Exists _;exact ⟨(n5, (wrap .i64 ((wrap .i64 (64 * n122)) + v125.1)), (wrap .i64 (i123 + 1))), h, Lg _, (fun i => i), Zq⟩
  refine iL2 h fun h => ?_;refine iL2 h fun h => ?_;refine iR2 h fun h => ?_;exact iB2 h
 refine iR2 h fun h => ?_;refine iR2 h fun h => ?_;refine lpH (τ := Int × Int) (fun ⟨n143, i144⟩ => (iS s_0 :: iI at_1 :: a4 (iI n143 :: iI 4 :: iI 65536 :: iI i144 :: a16 (a16 (a16 (a16 (a8 (.any :: [])))))) : List AV)) (fun n6 ⟨n143, i144⟩ => Yv N s_0 at_1 n6 n143 i144) ((wrap .i64 ((wrap .i64 (b1.toNat : Int)) - 240)), 1) h fun n6 ⟨n143, i144⟩ h => ?_
 first | rw [Yv] at h | simp only [Yv] at h
 rw [cX] at h;apply iU h <;> intro h
 ·refine cP h Zy p2 fun v146 h => ?_;refine iL2 h fun h => ?_;show Exists _;exact ⟨(n6, (wrap .i64 ((wrap .i64 (64 * n143)) + v146.1)), (wrap .i64 (i144 + 1))), h, Lg _, (fun i => i), Zq⟩
 refine iL2 h fun h => ?_;refine iL2 h fun h => ?_;refine iR2 h fun h => ?_;exact iB2 h
def Y4 (N : Nat) (s_0 : List UInt8) : Nat → Int → Option Int
 | 0, _ => none
 | n + 1, at12 =>
  cond (Q7 .lss at12 (s_0.length : Int))
  ((X0 N s_0 at12).bind fun v14 =>
  cond (Q7 .eql v14.2 0)
  (some at12)
  (cond (Q7 .eql v14.1 0)
  (some at12)
  (Y4 N s_0 n (wrap .i64 (at12 + v14.2)))))
  (some (-1))
def Vn (N : Nat) (s_0 : List UInt8) : Option Int :=
 Y4 N s_0 N 0
theorem Q32 {N} {s_0} {r} (h : Vn N s_0 = some r) : pU 59 [.str s_0] (.int .i64 r) := by
 refine Q6 k59 ?_;unfold Vn at h;refine lpH (τ := Int) (fun at12 => (iS s_0 :: .any :: .any :: iI at12 :: a16 (a4 (a2 ([]))) : List AV)) (fun n0 at12 => Y4 N s_0 n0 at12) (0) h fun n0 at12 h => ?_
 first | rw [Y4] at h | simp only [Y4] at h
 rw [cX] at h;refine iR h fun h => ?_;refine cP h Q1m p2 fun v14 h => ?_;refine iL h fun h => ?_;refine iL h fun h => ?_;show Exists _;exact ⟨(n0, (wrap .i64 (at12 + v14.2))), h, Lg _, (fun i => i), Zq⟩
def Ww (N : Nat) (s_0 : List UInt8) : Option Bool :=
 cond (Q7 .leq (s_0.length : Int) 65535)
 ((Vn N s_0).bind fun v2 =>
 some (Q7 .lss v2 0))
 (some false)
theorem Q1s {N} {s_0} {r} (h : Ww N s_0 = some r) : pU 48 [.str s_0] (.bool r) := by
 refine Q6 k48 ?_;unfold Ww at h;rw [cX] at h;refine iR h fun h => ?_;refine cP h Q32 p1 fun v2 h => ?_;cases h; exact (.p _)
def Ym (N : Nat) (s_0 : List UInt8) (c : Int) : Nat → Int → Option Bool
 | 0, _ => none
 | n + 1, i10 =>
  cond (Q7 .lss i10 (s_0.length : Int))
  ((idx s_0 i10).bind fun b12 =>
  cond (Q7 .eql (b12.toNat : Int) c)
  (some true)
  (Ym N s_0 c n (wrap .i64 (i10 + 1))))
  (some false)
def Wg (N : Nat) (s_0 : List UInt8) (c : Int) : Option Bool :=
 Ym N s_0 c N 0
theorem Jy {N} {s_0} {c} {r} (h : Wg N s_0 c = some r) : pU 49 [.str s_0, .int .u8 c] (.bool r) := by
 refine Q6 k49 ?_;unfold Wg at h;refine lpH (τ := Int) (fun i10 => (iS s_0 :: .p (.int .u8 c) :: a2 (.any :: iI i10 :: a8 (a2 (.any :: []))) : List AV)) (fun n0 i10 => Ym N s_0 c n0 i10) (0) h fun n0 i10 h => ?_
 first | rw [Ym] at h | simp only [Ym] at h
 rw [cX] at h;refine iR h fun h => ?_;refine xB h fun b12 h => ?_;refine iL h fun h => ?_;show Exists _;exact ⟨(n0, (wrap .i64 (i10 + 1))), h, Lg _, (fun i => i), Zq⟩
def X9 (N : Nat) (s_0 : List UInt8) : Option Bool :=
 cond (Jx .neq s_0 [])
 ((Ww N s_0).bind fun v2 =>
 cond v2
 ((Wg N s_0 43).bind fun v5 =>
 cond (!v5)
 ((Wg N s_0 35).bind fun v8 =>
 some (!v8))
 (some false))
 (some false))
 (some false)
theorem Vo {N} {s_0} {r} (h : X9 N s_0 = some r) : pU 34 [.str s_0] (.bool r) := by
 refine Q6 k34 ?_;unfold X9 at h;rw [cY] at h;refine iR h fun h => ?_;refine cP h Q1s p1 fun v2 h => ?_;refine iR h fun h => ?_;refine cP h Jy p2 fun v5 h => ?_;refine iR h fun h => ?_;refine cP h Jy p2 fun v8 h => ?_;cases h; exact (.p _)
def Qv (N : Nat) (r_0 : Q2) (client : List UInt8) : Nat → Int → Option ((List Z4) × Q2)
 | 0, _ => none
 | n + 1, i18 =>
  cond (Q7 .lss i18 ((Qd Q1.cells r_0.L).length : Int))
  ((idx r_0.L i18).bind fun y20 =>
  cond (Jx .eql y20.client client)
  ((idx r_0.L i18).bind fun y23 =>
  cond (Nat.beq (Qd Z4.cells y23.l).length 0)
  (some ([], r_0))
  (cond (Nat.ble ((0 + (Qd Z4.cells y23.l).length + 4096) * 32) 17592186044416) (some ((([] : List Z4) ++ y23.l), r_0)) none))
  (Qv N r_0 client n (wrap .i64 (i18 + 1))))
  (some ([], r_0))
def Zg (N : Nat) (r_0 : Q2) (client : List UInt8) : Option ((List Z4) × Q2) :=
 Qv N r_0 client N 0
theorem Wl {N} {r_0} {client} {r} (h : Zg N r_0 client = some r) : Qji Tryz.prog G1 35 (Q2.cells r_0) [.str client] (.slice 3 (Qd Z4.cells r.1)) (Q2.cells r.2) := by
 refine Q1l k35 ?_;unfold Zg at h;refine lpH (τ := Int) (fun i18 => (.ptr 0 0 :: iS client :: a2 (.any :: iI i18 :: a16 (a8 (a4 (.any :: [])))) : List AV)) (fun n0 i18 => Qv N r_0 client n0 i18) (0) h fun n0 i18 h => ?_
 first | rw [Qv] at h | simp only [Qv] at h
 rw [cX, cY] at h;apply iU h <;> intro h
 ·refine xR h fun y20 h => ?_;apply iU h <;> intro h
  ·refine xR h fun y23 h => ?_;refine Qjx (c := Z4.cells) (vs := y23.l) rfl ?_;apply iU h <;> intro h
   ·obtain rfl := Qj h; exact ⟨_, _, rfl, p1, (frz_own (c := Z4.cells) (l := ([] : List Z4)) (fun _ => rfl) rfl (by decide) sd)⟩
   obtain ⟨hk25, h⟩ := Q36 h;refine Jv (Wb (c := Z4.cells) (e := 3) (l := ([] : List Z4)) (fun _ => rfl) sd hk25) ?_;obtain rfl := Qj h; exact ⟨_, _, rfl, p1, (frz_own (c := Z4.cells) (l := ((([] : List Z4) ++ y23.l) : List Z4)) (fun _ => rfl) rfl (by decide) sd)⟩
  show Exists _;exact ⟨(n0, (wrap .i64 (i18 + 1))), h, Lg _, (fun i => i), Zq⟩
 obtain rfl := Qj h; exact ⟨_, _, rfl, p1, (.nil _)⟩
def Q5 (N : Nat) (r_0 : Q2) (client : List UInt8) (l : List Z4) : Nat → Bool → Int → (List Q1) → Option ((Unit) × Q2)
 | 0, _, _, _ => none
 | n + 1, in24, i25, l26 =>
  cond (Q7 .lss i25 ((Qd Q1.cells r_0.L).length : Int))
  ((idx r_0.L i25).bind fun y28 =>
  cond (!in24)
  (cond (Jx .lss client y28.client)
  (cond (Nat.ble ((l26.length + 1 + 4096) * 40) 17592186044416) (cond (Jx .neq y28.client client)
  (cond (Nat.ble (((l26.length + 1) + 1 + 4096) * 40) 17592186044416) (Q5 N r_0 client l n true (wrap .i64 (i25 + 1)) ((l26 ++ [(⟨client, l⟩ : Q1)]) ++ [y28])) none)
  (Q5 N r_0 client l n true (wrap .i64 (i25 + 1)) (l26 ++ [(⟨client, l⟩ : Q1)]))) none)
  (cond (Jx .neq y28.client client)
  (cond (Nat.ble ((l26.length + 1 + 4096) * 40) 17592186044416) (Q5 N r_0 client l n in24 (wrap .i64 (i25 + 1)) (l26 ++ [y28])) none)
  (Q5 N r_0 client l n in24 (wrap .i64 (i25 + 1)) l26)))
  (cond (Jx .neq y28.client client)
  (cond (Nat.ble ((l26.length + 1 + 4096) * 40) 17592186044416) (Q5 N r_0 client l n in24 (wrap .i64 (i25 + 1)) (l26 ++ [y28])) none)
  (Q5 N r_0 client l n in24 (wrap .i64 (i25 + 1)) l26)))
  (cond (!in24)
  (cond (Nat.ble ((l26.length + 1 + 4096) * 40) 17592186044416) (some ((), (⟨(l26 ++ [(⟨client, l⟩ : Q1)])⟩ : Q2))) none)
  (some ((), (⟨l26⟩ : Q2))))
def Zp (N : Nat) (r_0 : Q2) (client : List UInt8) (l : List Z4) : Option ((Unit) × Q2) :=
 Q5 N r_0 client l N (Q7 .eql ((Qd Z4.cells l).length : Int) 0) 0 []
theorem Vd {N} {r_0} {client} {l} {r} (h : Zp N r_0 client l = some r) : Qji Tryz.prog G1 36 (Q2.cells r_0) [.str client, .slice 3 (Qd Z4.cells l)] (.tuple []) (Q2.cells r.2) := by
 refine Q1l k36 ?_;unfold Zp at h;rw [cX] at h;refine lpA (τ := Bool × Int × (List Q1)) (fun ⟨in24, i25, l26⟩ => (.ptr 0 0 :: iS client :: .p (.slice 3 (Qd Z4.cells l)) :: a2 (.any :: .slice 2 1 0 l26.length :: .p (.bool in24) :: iI i25 :: a16 (a16 (a16 (a4 (a2 ([])))))) : List AV)) (fun ⟨_, _, l26⟩ => (.cells (.p (.slice 2 (Qd Q1.cells r_0.L)) :: []) :: .cells (Zz Q1.cells l26) :: [] : List AObj)) (fun n0 ⟨in24, i25, l26⟩ => Q5 N r_0 client l n0 in24 i25 l26) ((Qri .eql ((Qd Z4.cells l).length : Int) 0), 0, []) h fun n0 ⟨in24, i25, l26⟩ h => ?_
 first | rw [Q5] at h | simp only [Q5] at h
 rw [cX, cY] at h;apply iU h <;> intro h
 ·refine xR h fun y28 h => ?_;apply iU h <;> intro h
  ·apply iU h <;> intro h
   ·obtain ⟨hk32, h⟩ := Q36 h;refine Jv (Wb (c := Q1.cells) (e := 2) (fun _ => rfl) sd hk32) ?_;refine Ut (c := Q1.cells) [(⟨client, l⟩ : Q1)] rfl ?_;apply iU h <;> intro h
    ·obtain ⟨hk34, h⟩ := Q36 h;refine Jv (Wb (c := Q1.cells) (e := 2) (fun _ => rfl) sd hk34) ?_;refine Ut (c := Q1.cells) [y28] rfl ?_;show Exists _;exact ⟨(n0, true, (wrap .i64 (i25 + 1)), ((l26 ++ [(⟨client, l⟩ : Q1)]) ++ [y28])), h, Lg _, (rho [0, 6]), Zq⟩
    show Exists _;exact ⟨(n0, true, (wrap .i64 (i25 + 1)), (l26 ++ [(⟨client, l⟩ : Q1)])), h, Lg _, (rho [0, 4]), Zq⟩
   apply iU h <;> intro h
   ·obtain ⟨hk36, h⟩ := Q36 h;refine Jv (Wb (c := Q1.cells) (e := 2) (fun _ => rfl) sd hk36) ?_;refine Ut (c := Q1.cells) [y28] rfl ?_;show Exists _;exact ⟨(n0, in24, (wrap .i64 (i25 + 1)), (l26 ++ [y28])), h, Lg _, (rho [0, 4]), Zq⟩
   show Exists _;exact ⟨(n0, in24, (wrap .i64 (i25 + 1)), l26), h, Lg _, (fun i => i), Zq⟩
  apply iU h <;> intro h
  ·obtain ⟨hk38, h⟩ := Q36 h;refine Jv (Wb (c := Q1.cells) (e := 2) (fun _ => rfl) sd hk38) ?_;refine Ut (c := Q1.cells) [y28] rfl ?_;show Exists _;exact ⟨(n0, in24, (wrap .i64 (i25 + 1)), (l26 ++ [y28])), h, Lg _, (rho [0, 4]), Zq⟩
  show Exists _;exact ⟨(n0, in24, (wrap .i64 (i25 + 1)), l26), h, Lg _, (fun i => i), Zq⟩
 apply iU h <;> intro h
 ·obtain ⟨hk40, h⟩ := Q36 h;refine Jv (Wb (c := Q1.cells) (e := 2) (fun _ => rfl) sd hk40) ?_;refine Ut (c := Q1.cells) [(⟨client, l⟩ : Q1)] rfl ?_
  obtain rfl := Qj h; exact ⟨_, _, rfl, (.cons (frz_own (c := Q1.cells) (l := ((l26 ++ [(⟨client, l⟩ : Q1)]) : List Q1)) (fun _ => rfl) rfl (by decide) sd) .nil), (by first | exact .p _ | exact .tuple _ _ rfl (fun i v x h => by simp at h))⟩
 obtain rfl := Qj h; exact ⟨_, _, rfl, (.cons (frz_own (c := Q1.cells) (l := (l26 : List Q1)) (fun _ => rfl) rfl (by decide) sd) .nil), (by first | exact .p _ | exact .tuple _ _ rfl (fun i v x h => by simp at h))⟩
def Z3 (N : Nat) (l : List Z4) (t : Z4) : Nat → Bool → Int → (List Z4) → Option (List Z4)
 | 0, _, _, _ => none
 | n + 1, in27, i28, l29 =>
  cond (Q7 .lss i28 ((Qd Z4.cells l).length : Int))
  (cond (!in27)
  ((idx l i28).bind fun y32 =>
  cond (Q7 .lss t.ID y32.ID)
  (cond (Nat.ble ((l29.length + 1 + 4096) * 32) 17592186044416) ((idx l i28).bind fun y36 =>
  cond (Nat.ble (((l29.length + 1) + 1 + 4096) * 32) 17592186044416) (Z3 N l t n true (wrap .i64 (i28 + 1)) ((l29 ++ [t]) ++ [y36])) none) none)
  ((idx l i28).bind fun y39 =>
  cond (Nat.ble ((l29.length + 1 + 4096) * 32) 17592186044416) (Z3 N l t n in27 (wrap .i64 (i28 + 1)) (l29 ++ [y39])) none))
  ((idx l i28).bind fun y42 =>
  cond (Nat.ble ((l29.length + 1 + 4096) * 32) 17592186044416) (Z3 N l t n in27 (wrap .i64 (i28 + 1)) (l29 ++ [y42])) none))
  (cond (!in27)
  (cond (Nat.ble ((l29.length + 1 + 4096) * 32) 17592186044416) (some (l29 ++ [t])) none)
  (some l29))
def Xg (N : Nat) (l : List Z4) (t : Z4) : Option (List Z4) :=
 Z3 N l t N false 0 []
theorem Ju {N} {l} {t} {r} (h : Xg N l t = some r) : pU 37 [.slice 3 (Qd Z4.cells l), .agg (Z4.cells t)] (.slice 3 (Qd Z4.cells r)) := by
 refine Q6 k37 ?_;unfold Xg at h;refine lpA (τ := Bool × Int × (List Z4)) (fun ⟨in27, i28, l29⟩ => (.p (.slice 3 (Qd Z4.cells l)) :: .any :: .any :: .ptr 0 0 :: .any :: .slice 3 1 0 l29.length :: .p (.bool in27) :: iI i28 :: a16 (a16 (a4 ([]))) : List AV)) (fun ⟨_, _, l29⟩ => (.cells (iI t.ID :: iS t.Name :: .p (.bool t.Fixed) :: []) :: .cells (Zz Z4.cells l29) :: [] : List AObj)) (fun n0 ⟨in27, i28, l29⟩ => Z3 N l t n0 in27 i28 l29) (false, 0, []) h fun n0 ⟨in27, i28, l29⟩ h => ?_
 first | rw [Z3] at h | simp only [Z3] at h
 rw [cX] at h;apply iU h <;> intro h
 ·refine Qi ?_;apply iU h <;> intro h
  ·refine xR h fun y32 h => ?_;apply iU h <;> intro h
   ·obtain ⟨hk35, h⟩ := Q36 h;refine Jv (Wb (c := Z4.cells) (e := 3) (fun _ => rfl) sd hk35) ?_;refine Ut (c := Z4.cells) [t] rfl ?_;refine xR h fun y36 h => ?_;obtain ⟨hk38, h⟩ := Q36 h;refine Jv (Wb (c := Z4.cells) (e := 3) (fun _ => rfl) sd hk38) ?_;refine Ut (c := Z4.cells) [y36] rfl ?_;show Exists _;exact ⟨(n0, true, (wrap .i64 (i28 + 1)), ((l29 ++ [t]) ++ [y36])), h, Lg _, (rho [0, 5]), Zq⟩
   refine xR h fun y39 h => ?_;obtain ⟨hk41, h⟩ := Q36 h;refine Jv (Wb (c := Z4.cells) (e := 3) (fun _ => rfl) sd hk41) ?_;refine Ut (c := Z4.cells) [y39] rfl ?_;show Exists _;exact ⟨(n0, in27, (wrap .i64 (i28 + 1)), (l29 ++ [y39])), h, Lg _, (rho [0, 3]), Zq⟩
  refine xR h fun y42 h => ?_;obtain ⟨hk44, h⟩ := Q36 h;refine Jv (Wb (c := Z4.cells) (e := 3) (fun _ => rfl) sd hk44) ?_;refine Ut (c := Z4.cells) [y42] rfl ?_;show Exists _;exact ⟨(n0, in27, (wrap .i64 (i28 + 1)), (l29 ++ [y42])), h, Lg _, (rho [0, 3]), Zq⟩
 apply iU h <;> intro h
 ·obtain ⟨hk46, h⟩ := Q36 h;refine Jv (Wb (c := Z4.cells) (e := 3) (fun _ => rfl) sd hk46) ?_;refine Ut (c := Z4.cells) [t] rfl ?_;obtain rfl := Qj h; exact (frz_own (c := Z4.cells) (l := ((l29 ++ [t]) : List Z4)) (fun _ => rfl) rfl trivial sd)
 obtain rfl := Qj h; exact (frz_own (c := Z4.cells) (l := (l29 : List Z4)) (fun _ => rfl) rfl trivial sd)
def Qc (N : Nat) (client : List UInt8) (name : List UInt8) (v4 : (List Z4) × Q2) : Nat → Int → Int → Option ((Int × Bool × Int) × Q2)
 | 0, _, _ => none
 | n + 1, free27, i28 =>
  cond (Q7 .lss i28 ((Qd Z4.cells v4.1).length : Int))
  ((idx v4.1 i28).bind fun y30 =>
  cond (Jx .eql y30.Name name)
  ((idx v4.1 i28).bind fun y33 =>
  some ((y33.ID, false, 0), v4.2))
  ((idx v4.1 i28).bind fun y35 =>
  cond (Q7 .eql y35.ID free27)
  (Qc N client name v4 n (wrap .i64 (free27 + 1)) (wrap .i64 (i28 + 1)))
  (Qc N client name v4 n free27 (wrap .i64 (i28 + 1)))))
  (cond (Q7 .gtr free27 65534)
  (some ((0, false, 12), v4.2))
  ((Xg N v4.1 (⟨free27, name, false⟩ : Z4)).bind fun v39 =>
  (Zp N v4.2 client v39).bind fun v41 =>
  some ((free27, true, 0), v41.2)))
def Z1 (N : Nat) (r_0 : Q2) (client : List UInt8) (name : List UInt8) : Option ((Int × Bool × Int) × Q2) :=
 (X9 N name).bind fun v1 =>
 cond (!v1)
 (some ((0, false, 10), r_0))
 ((Zg N r_0 client).bind fun v4 =>
 Qc N client name v4 N 1 0)
theorem W5 {N} {r_0} {client} {name} {r} (h : Z1 N r_0 client name = some r) : Qji Tryz.prog G1 17 (Q2.cells r_0) [.str client, .str name] (.tuple [.int .i64 r.1.1, .bool r.1.2.1, .int .i64 r.1.2.2]) (Q2.cells r.2) := by
 refine Q1l k17 ?_;unfold Z1 at h;refine cP h Vo p1 fun v1 h => ?_;apply iU h <;> intro h
 ·obtain rfl := Qj h; exact ⟨_, _, rfl, p1, u3⟩
 refine cM h Wl rfl p1 fun v4 h => ?_;refine lpH (τ := Int × Int) (fun ⟨free27, i28⟩ => (.ptr 0 0 :: iS client :: iS name :: a4 (a2 (.p (.slice 3 (Qd Z4.cells v4.1)) :: iI free27 :: iI i28 :: a16 (a16 (a8 (a4 ([])))))) : List AV)) (fun n0 ⟨free27, i28⟩ => Qc N client name v4 n0 free27 i28) (1, 0) h fun n0 ⟨free27, i28⟩ h => ?_
 first | rw [Qc] at h | simp only [Qc] at h
 rw [cX, cY] at h;apply iU h <;> intro h
 ·refine xR h fun y30 h => ?_;apply iU h <;> intro h
  ·refine xR h fun y33 h => ?_;obtain rfl := Qj h; exact ⟨_, _, rfl, p1, u3⟩
  refine xR h fun y35 h => ?_;apply iU h <;> intro h
  ·show Exists _;exact ⟨(n0, (wrap .i64 (free27 + 1)), (wrap .i64 (i28 + 1))), h, Lg _, (fun i => i), Zq⟩
  show Exists _;exact ⟨(n0, free27, (wrap .i64 (i28 + 1))), h, Lg _, (fun i => i), Zq⟩
 apply iU h <;> intro h
 ·obtain rfl := Qj h; exact ⟨_, _, rfl, p1, u3⟩
 refine cP h Ju (.cons (.p _) (.cons (Frz.agg' p3) .nil)) fun v39 h => ?_;refine cM h Vd rfl p2 fun v41 h => ?_;obtain rfl := Qj h; exact ⟨_, _, rfl, p1, u3⟩
def Ve (N : Nat) (R : Reg) (c n : List UInt8) (id : Int) : Option (Int × Reg) := (W6 N n).bind fun b => some (Qkt b R c n id)
theorem Q17 {N R c n id r} (h : Ve N R c n id = some r) : Q1h Tryz.prog G1 18 R [.str c, .str n, .int .i64 id] (.int .i64 r.1) r.2 := by
 obtain ⟨b, hb, h⟩ := Ux h;cases h; exact Qqu (V9 hb)
def Qg (N : Nat) (client : List UInt8) (name : List UInt8) (id : Int) (v6 : (List Z4) × Q2) : Nat → Int → Option ((Int) × Q2)
 | 0, _ => none
 | n + 1, i37 =>
  cond (Q7 .lss i37 ((Qd Z4.cells v6.1).length : Int))
  ((idx v6.1 i37).bind fun y39 =>
  cond (Q7 .eql y39.ID id)
  (some (16, v6.2))
  ((idx v6.1 i37).bind fun y42 =>
  cond (Jx .eql y42.Name name)
  (some (16, v6.2))
  (Qg N client name id v6 n (wrap .i64 (i37 + 1)))))
  ((Xg N v6.1 (⟨id, name, true⟩ : Z4)).bind fun v45 =>
  (Zp N v6.2 client v45).bind fun v47 =>
  some (0, v47.2))
def Ql (N : Nat) (client : List UInt8) (name : List UInt8) (id : Int) (v6 : (List Z4) × Q2) : Nat → Int → Option ((Int) × Q2)
 | 0, _ => none
 | n + 1, i17 =>
  cond (Q7 .lss i17 ((Qd Z4.cells v6.1).length : Int))
  ((idx v6.1 i17).bind fun y19 =>
  cond (((y19.ID : Int) == id) && (((y19.Name : List UInt8) == name) && (((y19.Fixed : Bool) == true) && true)))
  (some (0, v6.2))
  (Ql N client name id v6 n (wrap .i64 (i17 + 1))))
  (Qg N client name id v6 N 0)
def Qw (N : Nat) (r_0 : Q2) (client : List UInt8) (name : List UInt8) (id : Int) : Option ((Int) × Q2) :=
 (X9 N name).bind fun v1 =>
 cond (!v1)
 (some (10, r_0))
 (cond (Q7 .lss id 1)
 (some (2, r_0))
 (cond (Q7 .gtr id 65534)
 (some (2, r_0))
 ((Zg N r_0 client).bind fun v6 =>
 Ql N client name id v6 N 0)))
theorem Xx {N} {r_0} {client} {name} {id} {r} (h : Qw N r_0 client name id = some r) : Qji Tryz.prog G1 19 (Q2.cells r_0) [.str client, .str name, .int .i64 id] (.int .i64 r.1) (Q2.cells r.2) := by
 refine Q1l k19 ?_;unfold Qw at h;rw [cX] at h;refine cP h Vo p1 fun v1 h => ?_;apply iU h <;> intro h
 ·obtain rfl := Qj h; exact ⟨_, _, rfl, p1, (.p _)⟩
 apply iU h <;> intro h
 ·obtain rfl := Qj h; exact ⟨_, _, rfl, p1, (.p _)⟩
 apply iU h <;> intro h
 ·obtain rfl := Qj h; exact ⟨_, _, rfl, p1, (.p _)⟩
 refine cM h Wl rfl p1 fun v6 h => ?_;refine lpH (τ := Int) (fun i17 => (.ptr 0 0 :: iS client :: iS name :: iI id :: a4 (.any :: .p (.slice 3 (Qd Z4.cells v6.1)) :: .ptr 1 0 :: iI i17 :: a16 (a16 (a16 (a8 (a2 ([])))))) : List AV)) (fun n0 i17 => Ql N client name id v6 n0 i17) (0) h fun n0 i17 h => ?_
 first | rw [Ql] at h | simp only [Ql] at h
 rw [cX] at h;apply iU h <;> intro h
 ·refine Qi ?_;refine xR h fun y19 h => ?_;apply iU h <;> intro h
  ·obtain rfl := Qj h; exact ⟨_, _, rfl, p1, (.p _)⟩
  show Exists _;exact ⟨(n0, (wrap .i64 (i17 + 1))), h, Lg _, (fun i => i), Zq⟩
 refine lpH (τ := Int) (fun i37 => (.ptr 0 0 :: iS client :: iS name :: iI id :: a4 (.any :: .p (.slice 3 (Qd Z4.cells v6.1)) :: .ptr 1 0 :: .any :: iI i37 :: a16 (a16 (a16 (a8 (.any :: []))))) : List AV)) (fun n1 i37 => Qg N client name id v6 n1 i37) (0) h fun n1 i37 h => ?_
 first | rw [Qg] at h | simp only [Qg] at h
 rw [cX, cY] at h;apply iU h <;> intro h
 ·refine xR h fun y39 h => ?_;apply iU h <;> intro h
  ·obtain rfl := Qj h; exact ⟨_, _, rfl, p1, (.p _)⟩
  refine xR h fun y42 h => ?_;apply iU h <;> intro h
  ·obtain rfl := Qj h; exact ⟨_, _, rfl, p1, (.p _)⟩
  show Exists _;exact ⟨(n1, (wrap .i64 (i37 + 1))), h, Lg _, (fun i => i), Zq⟩
 refine cP h Ju (.cons (.p _) (.cons (Frz.agg' p3) .nil)) fun v45 h => ?_;refine cM h Vd rfl p2 fun v47 h => ?_;obtain rfl := Qj h; exact ⟨_, _, rfl, p1, (.p _)⟩
def Q6t (_N : Nat) (R : Reg) (c : List UInt8) (id : Int) : Option ((List UInt8 × Int) × Reg) := some (Q5k R c id, R)
theorem Q5j {N R c id r} (h : Q6t N R c id = some r) : Q1h Tryz.prog G1 162 R [.str c, .int .i64 id] (.tuple [.str r.1.1, .int .i64 r.1.2]) r.2 := by cases h; exact Qnf
def Q4n (_N : Nat) (R : Reg) (c : List UInt8) (id : Int) : Option (Bool × Reg) := some (Q2v R c id, R)
theorem Q4f {N R c id r} (h : Q4n N R c id = some r) : Q1h Tryz.prog G1 163 R [.str c, .int .i64 id] (.bool r.1) r.2 := by cases h; exact Qk2
def Uu (_N : Nat) (l : Us) : Option Bool :=
 cond (Q7 .geq l.MaxPacket 16)
 (cond (Q7 .leq l.MaxPacket 1048576)
 (cond (Q7 .geq l.MaxDepth 0)
 (some (Q7 .leq l.MaxDepth 32))
 (some false))
 (some false))
 (some false)
theorem Q6u {N} {l} {r} (h : Uu N l = some r) : pU 50 [.agg (Us.cells l)] (.bool r) := by
 refine Q6 k50 ?_;unfold Uu at h;rw [cX] at h;refine iR h fun h => ?_;refine iR h fun h => ?_;exact iB h
def Gc (_N : Nat) (h_0 : Uh) : Option Bool :=
 cond (Q7 .geq h_0.Radius 0)
 (cond (Q7 .leq h_0.Radius 3)
 (cond (Q7 .geq (h_0.Node.length : Int) 1)
 (some (Q7 .leq (h_0.Node.length : Int) 32))
 (some false))
 (some false))
 (some false)
theorem Q44 {N} {h_0} {r} (h : Gc N h_0 = some r) : pU 53 [.agg (Uh.cells h_0)] (.bool r) := by
 refine Q6 k53 ?_;unfold Gc at h;rw [cX] at h;refine iR h fun h => ?_;refine iR h fun h => ?_;exact iB h
def J2 (N : Nat) (h_0 : Uh) : Option Bool :=
 (Gc N h_0).bind fun v1 =>
 some (!v1)
theorem Q4s {N} {h_0} {r} (h : J2 N h_0 = some r) : pU 52 [.agg (Uh.cells h_0)] (.bool r) := by
 refine Q6 k52 ?_;unfold J2 at h;refine cP h Q44 (.cons q2 .nil) fun v1 h => ?_;cases h; exact (.p _)
def Wx (_N : Nat) (kind : Int) : Option Bool :=
 cond (Q7 .eql kind 3)
 (some false)
 (cond (Q7 .eql kind 17)
 (some false)
 (cond (Q7 .eql kind 25)
 (some false)
 (cond (Q7 .eql kind 254)
 (some true)
 (cond (Q7 .geq kind 0)
 (some (Q7 .leq kind 29))
 (some false)))))
theorem Q1y {N} {kind} {r} (h : Wx N kind = some r) : pU 78 [.int .i64 kind] (.bool r) := by
 refine Q6 k78 ?_;unfold Wx at h;rw [cX] at h;refine ifO h (fun hc1 h => ?_) (fun hc1 h => ?_)
 ·refine ifT hc1 ?_;cases h; exact (.p _)
 refine ifO h (fun hc2 h => ?_) (fun hc2 h => ?_)
 ·refine ifT hc2 ?_;cases h; exact (.p _)
 refine iL h fun h => ?_;refine iL h fun h => ?_;exact iB h
def U5 (N : Nat) (kind : Int) : Option Bool :=
 (Wx N kind).bind fun v1 =>
 cond v1
 (some (Q7 .neq kind 254))
 (some false)
theorem Q5s {N} {kind} {r} (h : U5 N kind = some r) : pU 71 [.int .i64 kind] (.bool r) := by
 refine Q6 k71 ?_;unfold U5 at h;rw [cX] at h;refine cP h Q1y p1 fun v1 h => ?_;exact iB h
def Ul (_N : Nat) (f : Yp) : Option (Int × Int) :=
 cond (Q7 .lss f.QoS (-1))
 (some (0, 7))
 (cond (Q7 .gtr f.QoS 2)
 (some (0, 7))
 (cond (Q7 .lss f.Type' 0)
 (some (0, 7))
 (cond (Q7 .gtr f.Type' 2)
 (some (0, 7))
 (cond f.Clean
 (cond f.Will
 (cond f.Retain
 (cond f.Dup
 (some ((orI .i64 (orI .i64 (orI .i64 (orI .i64 (orI .i64 f.Type' 4) 8) 16) 128) (wrap .i64 ((Q05 .i64 f.QoS 3) * 32))), 0))
 (some ((orI .i64 (orI .i64 (orI .i64 (orI .i64 f.Type' 4) 8) 16) (wrap .i64 ((Q05 .i64 f.QoS 3) * 32))), 0)))
 (cond f.Dup
 (some ((orI .i64 (orI .i64 (orI .i64 (orI .i64 f.Type' 4) 8) 128) (wrap .i64 ((Q05 .i64 f.QoS 3) * 32))), 0))
 (some ((orI .i64 (orI .i64 (orI .i64 f.Type' 4) 8) (wrap .i64 ((Q05 .i64 f.QoS 3) * 32))), 0))))
 (cond f.Retain
 (cond f.Dup
 (some ((orI .i64 (orI .i64 (orI .i64 (orI .i64 f.Type' 4) 16) 128) (wrap .i64 ((Q05 .i64 f.QoS 3) * 32))), 0))
 (some ((orI .i64 (orI .i64 (orI .i64 f.Type' 4) 16) (wrap .i64 ((Q05 .i64 f.QoS 3) * 32))), 0)))
 (cond f.Dup
 (some ((orI .i64 (orI .i64 (orI .i64 f.Type' 4) 128) (wrap .i64 ((Q05 .i64 f.QoS 3) * 32))), 0))
 (some ((orI .i64 (orI .i64 f.Type' 4) (wrap .i64 ((Q05 .i64 f.QoS 3) * 32))), 0)))))
 (cond f.Will
 (cond f.Retain
 (cond f.Dup
 (some ((orI .i64 (orI .i64 (orI .i64 (orI .i64 f.Type' 8) 16) 128) (wrap .i64 ((Q05 .i64 f.QoS 3) * 32))), 0))
 (some ((orI .i64 (orI .i64 (orI .i64 f.Type' 8) 16) (wrap .i64 ((Q05 .i64 f.QoS 3) * 32))), 0)))
 (cond f.Dup
 (some ((orI .i64 (orI .i64 (orI .i64 f.Type' 8) 128) (wrap .i64 ((Q05 .i64 f.QoS 3) * 32))), 0))
 (some ((orI .i64 (orI .i64 f.Type' 8) (wrap .i64 ((Q05 .i64 f.QoS 3) * 32))), 0))))
 (cond f.Retain
 (cond f.Dup
 (some ((orI .i64 (orI .i64 (orI .i64 f.Type' 16) 128) (wrap .i64 ((Q05 .i64 f.QoS 3) * 32))), 0))
 (some ((orI .i64 (orI .i64 f.Type' 16) (wrap .i64 ((Q05 .i64 f.QoS 3) * 32))), 0)))
 (cond f.Dup
 (some ((orI .i64 (orI .i64 f.Type' 128) (wrap .i64 ((Q05 .i64 f.QoS 3) * 32))), 0))
 (some ((orI .i64 f.Type' (wrap .i64 ((Q05 .i64 f.QoS 3) * 32))), 0)))))))))
theorem Q2u {N} {f} {r} (h : Ul N f = some r) : pU 85 [.agg (Yp.cells f)] (.tuple [.int .i64 r.1, .int .i64 r.2]) := by
 refine Q6 k85 ?_;unfold Ul at h;rw [cX] at h;refine iL2 h fun h => ?_;refine iL2 h fun h => ?_;refine iL2 h fun h => ?_;refine iL2 h fun h => ?_;refine Q8 k91 ?_;apply iU h <;> intro h
 ·refine Q8 k91 ?_;apply iU h <;> intro h
  ·refine Q8 k91 ?_;apply iU h <;> intro h
   ·refine Q8 k91 ?_;exact iB2 h
   refine Q8 k91 ?_;exact iB2 h
  refine Q8 k91 ?_;apply iU h <;> intro h
  ·refine Q8 k91 ?_;exact iB2 h
  refine Q8 k91 ?_;exact iB2 h
 refine Q8 k91 ?_;apply iU h <;> intro h
 ·refine Q8 k91 ?_;apply iU h <;> intro h
  ·refine Q8 k91 ?_;exact iB2 h
  refine Q8 k91 ?_;exact iB2 h
 refine Q8 k91 ?_;apply iU h <;> intro h
 ·refine Q8 k91 ?_;exact iB2 h
 refine Q8 k91 ?_;exact iB2 h
def Jg (_N : Nat) (kind : Int) : Option (Yp) :=
 cond (Q7 .eql kind 4)
 (some (⟨false, 0, false, true, true, 0⟩ : Yp))
 (cond (Q7 .eql kind 7)
 (some (⟨false, 1, true, false, false, 0⟩ : Yp))
 (cond (Q7 .eql kind 26)
 (some (⟨false, 1, true, false, false, 0⟩ : Yp))
 (cond (Q7 .eql kind 19)
 (some (⟨false, 1, false, false, false, 0⟩ : Yp))
 (cond (Q7 .eql kind 12)
 (some (⟨true, 1, true, false, false, 1⟩ : Yp))
 (cond (Q7 .eql kind 18)
 (some (⟨true, 1, false, false, false, 1⟩ : Yp))
 (cond (Q7 .eql kind 20)
 (some (⟨false, 0, false, false, false, 1⟩ : Yp))
 (some (⟨false, 0, false, false, false, 0⟩ : Yp))))))))
theorem Q7r {N} {kind} {r} (h : Jg N kind = some r) : pU 86 [.int .i64 kind] (.agg (Yp.cells r)) := by
 refine Q6 k86 ?_;unfold Jg at h;rw [cX] at h;apply iU h <;> intro h
 ·show Frz _ _ _ _;obtain rfl := Qj h; exact (Frz.agg' (.cons (.p _) p5))
 refine ifO h (fun hc2 h => ?_) (fun hc2 h => ?_)
 ·refine ifT hc2 ?_;show Frz _ _ _ _;obtain rfl := Qj h; exact (Frz.agg' (.cons (.p _) p5))
 apply iU h <;> intro h
 ·show Frz _ _ _ _;obtain rfl := Qj h; exact (Frz.agg' (.cons (.p _) p5))
 apply iU h <;> intro h
 ·show Frz _ _ _ _;obtain rfl := Qj h; exact (Frz.agg' (.cons (.p _) p5))
 apply iU h <;> intro h
 ·show Frz _ _ _ _;obtain rfl := Qj h; exact (Frz.agg' (.cons (.p _) p5))
 apply iU h <;> intro h
 ·show Frz _ _ _ _;obtain rfl := Qj h; exact (Frz.agg' (.cons (.p _) p5))
 apply iU h <;> intro h
 ·show Frz _ _ _ _;obtain rfl := Qj h; exact (Frz.agg' (.cons (.p _) p5))
 show Frz _ _ _ _;obtain rfl := Qj h; exact (Frz.agg' (.cons (.p _) p5))
def Ua (_N : Nat) (c15 : Bool) (c18 : Int) (c21 : Bool) (c24 : Bool) (c27 : Bool) (c30 : Int) : Option Bool :=
 some (((c15 : Bool) == false) && (((c18 : Int) == 0) && (((c21 : Bool) == false) && (((c24 : Bool) == false) && (((c27 : Bool) == false) && (((c30 : Int) == 0) && true))))))
def U8 (N : Nat) (f : Yp) (v12 : Yp) (c15 : Bool) (c18 : Int) (c21 : Bool) (c24 : Bool) (c27 : Bool) : Option Bool :=
 cond (Q7 .eql v12.Type' 1)
 (Ua N c15 c18 c21 c24 c27 0)
 (Ua N c15 c18 c21 c24 c27 f.Type')
def Ue (N : Nat) (f : Yp) (v12 : Yp) (c15 : Bool) (c18 : Int) (c21 : Bool) (c24 : Bool) : Option Bool :=
 cond v12.Clean
 (U8 N f v12 c15 c18 c21 c24 false)
 (U8 N f v12 c15 c18 c21 c24 f.Clean)
def U9 (N : Nat) (f : Yp) (v12 : Yp) (c15 : Bool) (c18 : Int) (c21 : Bool) : Option Bool :=
 cond v12.Will
 (Ue N f v12 c15 c18 c21 false)
 (Ue N f v12 c15 c18 c21 f.Will)
def U6 (N : Nat) (f : Yp) (v12 : Yp) (c15 : Bool) (c18 : Int) : Option Bool :=
 cond v12.Retain
 (U9 N f v12 c15 c18 false)
 (U9 N f v12 c15 c18 f.Retain)
def Uc (N : Nat) (f : Yp) (v12 : Yp) (c15 : Bool) : Option Bool :=
 cond (Q7 .eql v12.QoS 1)
 (U6 N f v12 c15 0)
 (U6 N f v12 c15 f.QoS)
def U1 (N : Nat) (kind : Int) (f : Yp) (s9 : Bool) : Option Bool :=
 cond s9
 (some false)
 ((Jg N kind).bind fun v12 =>
 cond v12.Dup
 (Uc N f v12 false)
 (Uc N f v12 f.Dup))
def Q15 (N : Nat) (kind : Int) (f : Yp) : Option Bool :=
 (Ul N f).bind fun v1 =>
 cond (Q7 .neq v1.2 0)
 (some false)
 (cond (Q7 .lss f.QoS 0)
 (U1 N kind f (Q7 .neq kind 12))
 (U1 N kind f false))
theorem Q8k {N} {kind} {f} {r} (h : Q15 N kind f = some r) : pU 72 [.int .i64 kind, .agg (Yp.cells f)] (.bool r) := by
 refine Q6 k72 ?_;unfold Q15 at h;rw [cX] at h;refine cP h Q2u (.cons (Frz.agg' (.cons (.p _) p5)) .nil) fun v1 h => ?_;refine iL h fun h => ?_;refine Qhe ?_;refine jrH (r := r) (σ := Bool) (fun s9 => (iI kind :: .any :: .any :: .ptr 0 0 :: a16 (.any :: .p (.bool s9) :: a16 (a8 (.any :: []))) : List AV)) (fun s9 => U1 N kind f s9) ?_ ?_
 ·apply iU h <;> intro h
  ·show Exists _;exact ⟨((Qri .neq kind 12)), h, (fun i => i), Zq⟩
  show Exists _;exact ⟨(false), h, (fun i => i), Zq⟩
 rintro s9 h
 unfold U1 at h;refine iL h fun h => ?_;refine cP h Q7r p1 fun v12 h => ?_;refine jrA (r := r) (σ := Bool) (fun _ => (a2 (.any :: .ptr 0 0 :: a2 (.any :: .ptr 1 0 :: a16 (a16 (a4 (a2 (.any :: [])))))) : List AV)) (fun c15 => (.cells (.p (.bool c15) :: iI f.QoS :: .p (.bool f.Retain) :: .p (.bool f.Will) :: .p (.bool f.Clean) :: iI f.Type' :: []) :: .cells (Q3t v12 ([])) :: [] : List AObj)) (fun c15 => Uc N f v12 c15) ?_ ?_
 ·apply iU h <;> intro h
  ·show Exists _;exact ⟨(false), h, (fun i => i), Zq⟩
  show Exists _;exact ⟨(f.Dup), h, (fun i => i), Zq⟩
 rintro c15 h
 unfold Uc at h;rw [cX] at h;refine jrA (r := r) (σ := Int) (fun _ => (a2 (.any :: .ptr 0 0 :: a2 (.any :: .ptr 1 0 :: a16 (a16 (a4 (a2 (.any :: [])))))) : List AV)) (fun c18 => (.cells (.p (.bool c15) :: iI c18 :: .p (.bool f.Retain) :: .p (.bool f.Will) :: .p (.bool f.Clean) :: iI f.Type' :: []) :: .cells (Q3t v12 ([])) :: [] : List AObj)) (fun c18 => U6 N f v12 c15 c18) ?_ ?_
 ·apply iU h <;> intro h
  ·show Exists _;exact ⟨(0), h, (fun i => i), Zq⟩
  show Exists _;exact ⟨(f.QoS), h, (fun i => i), Zq⟩
 rintro c18 h
 unfold U6 at h;refine jrA (r := r) (σ := Bool) (fun _ => (a2 (.any :: .ptr 0 0 :: a2 (.any :: .ptr 1 0 :: a16 (a16 (a4 (a2 (.any :: [])))))) : List AV)) (fun c21 => (.cells (.p (.bool c15) :: iI c18 :: .p (.bool c21) :: .p (.bool f.Will) :: .p (.bool f.Clean) :: iI f.Type' :: []) :: .cells (Q3t v12 ([])) :: [] : List AObj)) (fun c21 => U9 N f v12 c15 c18 c21) ?_ ?_
 ·apply iU h <;> intro h
  ·show Exists _;exact ⟨(false), h, (fun i => i), Zq⟩
  show Exists _;exact ⟨(f.Retain), h, (fun i => i), Zq⟩
 rintro c21 h
 unfold U9 at h;refine jrA (r := r) (σ := Bool) (fun _ => (a2 (.any :: .ptr 0 0 :: a2 (.any :: .ptr 1 0 :: a16 (a16 (a4 (a2 (.any :: [])))))) : List AV)) (fun c24 => (.cells (.p (.bool c15) :: iI c18 :: .p (.bool c21) :: .p (.bool c24) :: .p (.bool f.Clean) :: iI f.Type' :: []) :: .cells (Q3t v12 ([])) :: [] : List AObj)) (fun c24 => Ue N f v12 c15 c18 c21 c24) ?_ ?_
 ·apply iU h <;> intro h
  ·show Exists _;exact ⟨(false), h, (fun i => i), Zq⟩
  show Exists _;exact ⟨(f.Will), h, (fun i => i), Zq⟩
 rintro c24 h
 unfold Ue at h;refine jrA (r := r) (σ := Bool) (fun _ => (a2 (.any :: .ptr 0 0 :: a2 (.any :: .ptr 1 0 :: a16 (a16 (a4 (a2 (.any :: [])))))) : List AV)) (fun c27 => (.cells (.p (.bool c15) :: iI c18 :: .p (.bool c21) :: .p (.bool c24) :: .p (.bool c27) :: iI f.Type' :: []) :: .cells (Q3t v12 ([])) :: [] : List AObj)) (fun c27 => U8 N f v12 c15 c18 c21 c24 c27) ?_ ?_
 ·apply iU h <;> intro h
  ·show Exists _;exact ⟨(false), h, (fun i => i), Zq⟩
  show Exists _;exact ⟨(f.Clean), h, (fun i => i), Zq⟩
 rintro c27 h
 unfold U8 at h;rw [cX] at h;refine jrA (r := r) (σ := Int) (fun _ => (a2 (.any :: .ptr 0 0 :: a16 (a16 (a8 (a2 (.any :: []))))) : List AV)) (fun c30 => (.cells (.p (.bool c15) :: iI c18 :: .p (.bool c21) :: .p (.bool c24) :: .p (.bool c27) :: iI c30 :: []) :: .cells (Q3t v12 ([])) :: [] : List AObj)) (fun c30 => Ua N c15 c18 c21 c24 c27 c30) ?_ ?_
 ·apply iU h <;> intro h
  ·show Exists _;exact ⟨(0), h, (fun i => i), Zq⟩
  show Exists _;exact ⟨(f.Type'), h, (fun i => i), Zq⟩
 rintro c30 h
 unfold Ua at h;cases h; exact (.p _)
def Gt (_N : Nat) (kind : Int) : Option Bool :=
 cond (Q7 .eql kind 7)
 (some true)
 (some (Q7 .eql kind 26))
theorem Q9f {N} {kind} {r} (h : Gt N kind = some r) : pU 73 [.int .i64 kind] (.bool r) := by
 refine Q6 k73 ?_;unfold Gt at h;rw [cX] at h;exact iB h
def Zu (N : Nat) (n_0 : Int) (size : Int) : Nat → Int → (List Int) → Option (List UInt8)
 | 0, _, _ => none
 | n + 1, s14, l15 =>
  cond (Q7 .lss s14 (ifB (decide (16 < size)) 16 size))
  (cond (Q7 .lss s14 8)
  (cond (decide (0 ≤ (wrap .u64 (wrap .i64 (8 * s14))))) ((idx (l15 : List Int) (wrap .i64 ((wrap .i64 ((ifB (decide (16 < size)) 16 size) - 1)) - s14))).bind fun y19 =>
  Zu N n_0 size n (wrap .i64 (s14 + 1)) ((l15 : List Int).set (Int.toNat (wrap .i64 ((wrap .i64 ((ifB (decide (16 < size)) 16 size) - 1)) - s14))) (wrap .u8 (Q46 .u64 n_0 (wrap .u64 (wrap .i64 (8 * s14))))))) none)
  (Zu N n_0 size n (wrap .i64 (s14 + 1)) l15))
  (some (l15.map fun n => UInt8.ofNat n.toNat))
def Ze (N : Nat) (n_0 : Int) (size : Int) : Option (List UInt8) :=
 cond (Q7 .leq size 0)
 (some [])
 (cond (decide (0 ≤ (ifB (decide (16 < size)) 16 size)) && decide ((ifB (decide (16 < size)) 16 size) ≤ (ifB (decide (16 < size)) 16 size)) && decide ((ifB (decide (16 < size)) 16 size) * 1 ≤ 1099511627776)) (Zu N n_0 size N 0 (List.replicate ((ifB (decide (16 < size)) 16 size) : Int).toNat (0 : Int))) none)
theorem Zf {N} {n_0} {size} {r} (h : Ze N n_0 size = some r) : pU 64 [.int .u64 n_0, .int .i64 size] (.str r) := by
 refine Q6 k64 ?_;unfold Ze at h;rw [cX] at h;refine iL h fun h => ?_;refine kU h fun h => ?_;refine Qqp (c := (cI .u8)) (0 : Int) rfl ?_;refine lpC (τ := Int × (List Int)) (fun ⟨s14, l15⟩ => (iW n_0 :: .p (.int .i64 (ifB (decide (16 < size)) 16 size)) :: a2 (.any :: .slice 1 1 0 l15.length :: a4 (a2 (.any :: .p (.int .i64 (ifB (decide (16 < size)) 16 size)) :: iI s14 :: a16 (a2 (.any :: []))))) : List AV)) (fun ⟨_, l15⟩ => (.dead :: .cells (Zz (cI .u8) l15) :: [] : List AObj)) (fun n0 ⟨s14, l15⟩ => Zu N n_0 size n0 s14 l15) (0, (List.replicate ((ifB (decide (16 < size)) 16 size) : Int).toNat (0 : Int))) h (rho [0, 0]) Zq fun n0 ⟨s14, l15⟩ h => ?_
 first | rw [Zu] at h | simp only [Zu] at h
 rw [cX] at h;apply iU h <;> intro h
 ·apply iU h <;> intro h
  ·refine kU h fun h => ?_;obtain ⟨y19, hy20, h⟩ := Ux h;refine Jv (Vb hy20 sd) ?_;refine Jv (Q0r (c := (cI .u8)) (e := 1) (fun _ => rfl) hy20 (off := 0) (by omega) rfl (by decide)) ?_
   refine Q0n (c := (cI .u8)) (e := 1) (fun _ => rfl) hy20 (wrap .u8 (Q46 .u64 n_0 (wrap .u64 (wrap .i64 (8 * s14))))) (off := 0) (by first | omega | (simp only [Q05, orI, Qa5, Wn, Q10, Q46]; omega)) rfl (by simp) ?_
   show Exists _;exact ⟨(n0, (wrap .i64 (s14 + 1)), ((l15 : List Int).set (Int.toNat (wrap .i64 ((wrap .i64 ((ifB (decide (16 < size)) 16 size) - 1)) - s14))) (wrap .u8 (Q46 .u64 n_0 (wrap .u64 (wrap .i64 (8 * s14))))))), h, Lg _, (fun i => i), Zq⟩
  show Exists _;exact ⟨(n0, (wrap .i64 (s14 + 1)), l15), h, Lg _, (fun i => i), Zq⟩
 refine Qos (l := l15) (n := l15.length) sd ?_;cases h; exact (.p _)
def Uz (N : Nat) (s_0 : List UInt8) : Nat → Int → Int → Option Int
 | 0, _, _ => none
 | n + 1, n12, s13 =>
  cond (Q7 .lss s13 (((s_0.take s_0.length).drop ((wrap .i64 ((s_0.length : Int) - 8)).toNat)).length : Int))
  ((idx ((s_0.take s_0.length).drop ((wrap .i64 ((s_0.length : Int) - 8)).toNat)) s13).bind fun b15 =>
  Uz N s_0 n (orI .u64 (Q10 .u64 n12 8) (wrap .u64 (b15.toNat : Int))) (wrap .i64 (s13 + 1)))
  (some n12)
def Uv (N : Nat) (s_0 : List UInt8) : Nat → Int → Int → Option Int
 | 0, _, _ => none
 | n + 1, n25, s26 =>
  cond (Q7 .lss s26 (s_0.length : Int))
  ((idx s_0 s26).bind fun b28 =>
  Uv N s_0 n (orI .u64 (Q10 .u64 n25 8) (wrap .u64 (b28.toNat : Int))) (wrap .i64 (s26 + 1)))
  (some n25)
def V0 (N : Nat) (s_0 : List UInt8) : Option Int :=
 cond (Q7 .gtr (s_0.length : Int) 8)
 (cond (decide (0 ≤ (wrap .i64 ((s_0.length : Int) - 8)))) (cond (Nat.ble (wrap .i64 ((s_0.length : Int) - 8)).toNat s_0.length && Nat.ble s_0.length s_0.length) (Uz N s_0 N 0 0) none) none)
 (Uv N s_0 N 0 0)
theorem W4 {N} {s_0} {r} (h : V0 N s_0 = some r) : pU 121 [.str s_0] (.int .u64 r) := by
 refine Q6 Qv5 ?_;unfold V0 at h;rw [cX] at h;apply iU h <;> intro h
 ·refine kU h fun h => ?_;refine kU h fun h => ?_;refine lpH (τ := Int × Int) (fun ⟨n12, s13⟩ => (.p (.str ((s_0.take s_0.length).drop ((wrap .i64 ((s_0.length : Int) - 8)).toNat))) :: .any :: .any :: iW n12 :: a8 (a2 (.p (.int .i64 (((s_0.take s_0.length).drop ((wrap .i64 ((s_0.length : Int) - 8)).toNat)).length : Int)) :: iI s13 :: a8 (a2 (.any :: [])))) : List AV)) (fun n0 ⟨n12, s13⟩ => Uz N s_0 n0 n12 s13) (0, 0) h fun n0 ⟨n12, s13⟩ h => ?_
  first | rw [Uz] at h | simp only [Uz] at h
  rw [cX] at h;refine iR h fun h => ?_;refine xB h fun b15 h => ?_;show Exists _;exact ⟨(n0, (orI .u64 (Q10 .u64 n12 8) (wrap .u64 (b15.toNat : Int))), (wrap .i64 (s13 + 1))), h, Lg _, (fun i => i), Zq⟩
 refine lpH (τ := Int × Int) (fun ⟨n25, s26⟩ => (iS s_0 :: .any :: .any :: iW n25 :: a8 (a2 (iI (s_0.length : Int) :: iI s26 :: a8 (a2 (.any :: [])))) : List AV)) (fun n1 ⟨n25, s26⟩ => Uv N s_0 n1 n25 s26) (0, 0) h fun n1 ⟨n25, s26⟩ h => ?_
 first | rw [Uv] at h | simp only [Uv] at h
 rw [cX] at h;refine iR h fun h => ?_;refine xB h fun b28 h => ?_;show Exists _;exact ⟨(n1, (orI .u64 (Q10 .u64 n25 8) (wrap .u64 (b28.toNat : Int))), (wrap .i64 (s26 + 1))), h, Lg _, (fun i => i), Zq⟩
def Z6 (N : Nat) (c : Q3) : Option ((Unit) × Q3) :=
 (Ul N c.m.Flags).bind fun v1 =>
 cond (Q7 .eql c.do' 2)
 (some ((), c))
 (cond (Q7 .eql c.do' 0)
 ((V0 N []).bind fun v5 =>
 some ((), c))
 (cond (Q7 .eql c.do' 1)
 ((Ze N (wrap .u64 v1.1) 1).bind fun v8 =>
 cond (!(Nat.beq v8.length 0)) (cond (Nat.ble ((c.out.length + v8.length + 4096) * 1) 17592186044416) (some ((), (⟨c.do', c.m, (c.out ++ (v8.map fun b => (b.toNat : Int))), c.bad⟩ : Q3))) none) none)
 (cond c.bad
 (some ((), (⟨c.do', c.m, c.out, true⟩ : Q3)))
 (cond (Q7 .lss v1.1 0)
 (some ((), (⟨c.do', c.m, c.out, true⟩ : Q3)))
 (some ((), (⟨c.do', c.m, c.out, (Q7 .geq v1.1 (Q10 .i64 1 8))⟩ : Q3)))))))
theorem Y5 {N} {c} {r} (h : Z6 N c = some r) : gU 96 (.ptr 0 0 :: []) (.cells (V5 c 1) :: .cells (Zz (cI .u8) c.out) :: []) (.tuple []) (.cells (V5 r.2 2) :: .dead :: .cells (Zz (cI .u8) r.2.out) :: []) := by
 refine Wr k96 (Lt rfl) ?_;unfold Z6 at h;rw [cX] at h;refine cP h Q2u (.cons (Frz.agg' (.cons (.p _) p5)) .nil) fun v1 h => ?_;apply iU h <;> intro h
 ·obtain rfl := Qj h;show Exists _;exact ⟨(rho [0, 1, 1]), Zq⟩
 refine Q8 Qo6 ?_;refine ifO h (fun hc4 h => ?_) (fun hc4 h => ?_)
 ·refine Q8 Qmy ?_;refine Q8 Qjo ?_;refine Q8 Qgw ?_;refine cP h W4 p1 fun v5 h => ?_;refine ifT hc4 ?_;refine Q8 Qw0 ?_;refine dF ?_;obtain rfl := Qj h;show Exists _;exact ⟨(rho [0, 1, 1]), Zq⟩
 apply iU h <;> intro h
 ·refine Qi ?_;refine cD h Zf p2 fun v8 h => ?_;refine Q4c (b := v8) ?_;obtain ⟨hk10, h⟩ := Q36 h;refine ifF (Qen hk10) ?_;obtain ⟨hk11, h⟩ := Q36 h;refine Jv (Wb (c := (cI .u8)) (e := 1) (l := c.out) (fun _ => rfl) sd hk11) ?_;refine Ut (c := (cI .u8)) (l := c.out) (v8.map fun b => (b.toNat : Int)) rfl ?_;refine ifF hc4 ?_;obtain rfl := Qj h;show Exists _;exact ⟨(rho [0, 1, 3]), Zq⟩
 refine Qi ?_;apply iU h <;> intro h
 ·refine ifF hc4 ?_;obtain rfl := Qj h;show Exists _;exact ⟨(rho [0, 1, 1]), Zq⟩
 apply iU h <;> intro h
 ·refine ifF hc4 ?_;obtain rfl := Qj h;show Exists _;exact ⟨(rho [0, 1, 1]), Zq⟩
 refine ifF hc4 ?_;obtain rfl := Qj h;show Exists _;exact ⟨(rho [0, 1, 1]), Zq⟩
def Y3 (N : Nat) (c : Q3) : Option ((Unit) × Q3) :=
 cond (Q7 .eql c.do' 0)
 ((V0 N []).bind fun v2 =>
 cond (Q7 .neq (wrap .i64 v2) 1)
 (some ((), c))
 (some ((), c)))
 (cond (Q7 .eql c.do' 1)
 ((Ze N (wrap .u64 1) 1).bind fun v6 =>
 cond (!(Nat.beq v6.length 0)) (cond (Nat.ble ((c.out.length + v6.length + 4096) * 1) 17592186044416) (some ((), (⟨c.do', c.m, (c.out ++ (v6.map fun b => (b.toNat : Int))), c.bad⟩ : Q3))) none) none)
 (cond c.bad
 (some ((), (⟨c.do', c.m, c.out, true⟩ : Q3)))
 (some ((), (⟨c.do', c.m, c.out, (Q7 .geq 1 (Q10 .i64 1 8))⟩ : Q3)))))
theorem Q1f {N} {c} {r} (h : Y3 N c = some r) : gU 97 (.ptr 0 0 :: []) (.cells (V5 c 1) :: .cells (Zz (cI .u8) c.out) :: []) (.tuple []) (.cells (V5 r.2 2) :: .dead :: .cells (Zz (cI .u8) r.2.out) :: []) := by
 refine Wr k97 (Lt rfl) ?_;unfold Y3 at h;rw [cX] at h;refine Q8 Qo6 ?_;refine ifO h (fun hc1 h => ?_) (fun hc1 h => ?_)
 ·refine Q8 Qmy ?_;refine Q8 Qjo ?_;refine Q8 Qgw ?_;refine cP h W4 p1 fun v2 h => ?_;refine ifT hc1 ?_;apply iU h <;> intro h
  ·refine Q8 Qtn ?_;refine Q8 Qgw ?_;obtain rfl := Qj h;show Exists _;exact ⟨(rho [0, 1, 1]), Zq⟩
  obtain rfl := Qj h;show Exists _;exact ⟨(rho [0, 1, 1]), Zq⟩
 apply iU h <;> intro h
 ·refine Qi ?_;refine cD h Zf p2 fun v6 h => ?_;refine Q4c (b := v6) ?_;obtain ⟨hk8, h⟩ := Q36 h;refine ifF (Qen hk8) ?_;obtain ⟨hk9, h⟩ := Q36 h;refine Jv (Wb (c := (cI .u8)) (e := 1) (l := c.out) (fun _ => rfl) sd hk9) ?_;refine Ut (c := (cI .u8)) (l := c.out) (v6.map fun b => (b.toNat : Int)) rfl ?_;refine ifF hc1 ?_;obtain rfl := Qj h;show Exists _;exact ⟨(rho [0, 1, 3]), Zq⟩
 refine Qi ?_;apply iU h <;> intro h
 ·refine ifF hc1 ?_;obtain rfl := Qj h;show Exists _;exact ⟨(rho [0, 1, 1]), Zq⟩
 refine dF ?_;refine ifF hc1 ?_;obtain rfl := Qj h;show Exists _;exact ⟨(rho [0, 1, 1]), Zq⟩
def Zh (N : Nat) (c : Q3) : Option ((Unit) × Q3) :=
 cond (Q7 .eql c.do' 0)
 ((V0 N []).bind fun v2 =>
 some ((), (⟨c.do', (⟨c.m.Type', c.m.Flags, c.m.Gateway, c.m.Radius, c.m.Time, c.m.Timed, c.m.TopicID, c.m.MsgID, (wrap .i64 v2), c.m.Name, c.m.Data⟩ : Um), c.out, c.bad⟩ : Q3)))
 (cond (Q7 .eql c.do' 1)
 ((Ze N (wrap .u64 c.m.Code) 1).bind fun v5 =>
 cond (!(Nat.beq v5.length 0)) (cond (Nat.ble ((c.out.length + v5.length + 4096) * 1) 17592186044416) (some ((), (⟨c.do', c.m, (c.out ++ (v5.map fun b => (b.toNat : Int))), c.bad⟩ : Q3))) none) none)
 (cond c.bad
 (some ((), (⟨c.do', (⟨c.m.Type', c.m.Flags, c.m.Gateway, c.m.Radius, c.m.Time, c.m.Timed, c.m.TopicID, c.m.MsgID, 0, c.m.Name, c.m.Data⟩ : Um), c.out, true⟩ : Q3)))
 (cond (Q7 .lss c.m.Code 0)
 (some ((), (⟨c.do', (⟨c.m.Type', c.m.Flags, c.m.Gateway, c.m.Radius, c.m.Time, c.m.Timed, c.m.TopicID, c.m.MsgID, 0, c.m.Name, c.m.Data⟩ : Um), c.out, true⟩ : Q3)))
 (some ((), (⟨c.do', (⟨c.m.Type', c.m.Flags, c.m.Gateway, c.m.Radius, c.m.Time, c.m.Timed, c.m.TopicID, c.m.MsgID, 0, c.m.Name, c.m.Data⟩ : Um), c.out, (Q7 .geq c.m.Code (Q10 .i64 1 8))⟩ : Q3))))))
theorem Yt {N} {c} {r} (h : Zh N c = some r) : gU 98 (.ptr 0 0 :: []) (.cells (V5 c 1) :: .cells (Zz (cI .u8) c.out) :: []) (.tuple []) (.cells (V5 r.2 2) :: .dead :: .cells (Zz (cI .u8) r.2.out) :: []) := by
 refine Wr k98 (Lt rfl) ?_;unfold Zh at h;rw [cX] at h;refine Q8 Qo6 ?_;apply iU h <;> intro h
 ·refine Q8 Qmy ?_;refine Q8 Qjo ?_;refine Q8 Qgw ?_;refine cP h W4 p1 fun v2 h => ?_;obtain rfl := Qj h;show Exists _;exact ⟨(rho [0, 1, 1]), Zq⟩
 apply iU h <;> intro h
 ·refine Qi ?_;refine cD h Zf p2 fun v5 h => ?_;refine Q4c (b := v5) ?_;obtain ⟨hk7, h⟩ := Q36 h;refine ifF (Qen hk7) ?_;obtain ⟨hk8, h⟩ := Q36 h;refine Jv (Wb (c := (cI .u8)) (e := 1) (l := c.out) (fun _ => rfl) sd hk8) ?_;refine Ut (c := (cI .u8)) (l := c.out) (v5.map fun b => (b.toNat : Int)) rfl ?_;obtain rfl := Qj h;show Exists _;exact ⟨(rho [0, 1, 2]), Zq⟩
 refine Qi ?_;apply iU h <;> intro h
 ·obtain rfl := Qj h;show Exists _;exact ⟨(rho [0, 1, 1]), Zq⟩
 apply iU h <;> intro h
 ·obtain rfl := Qj h;show Exists _;exact ⟨(rho [0, 1, 1]), Zq⟩
 obtain rfl := Qj h;show Exists _;exact ⟨(rho [0, 1, 1]), Zq⟩
def Z0 (_N : Nat) (c : Q3) : Option ((Unit) × Q3) :=
 cond (Q7 .eql c.do' 0)
 (some ((), (⟨c.do', (⟨c.m.Type', c.m.Flags, c.m.Gateway, c.m.Radius, c.m.Time, c.m.Timed, c.m.TopicID, c.m.MsgID, c.m.Code, [], c.m.Data⟩ : Um), c.out, c.bad⟩ : Q3)))
 (cond (Q7 .eql c.do' 1)
 (cond (Nat.beq c.m.Name.length 0)
 (some ((), c))
 (cond (Nat.ble ((c.out.length + c.m.Name.length + 4096) * 1) 17592186044416) (some ((), (⟨c.do', c.m, (c.out ++ (c.m.Name.map fun b => (b.toNat : Int))), c.bad⟩ : Q3))) none))
 (some ((), (⟨c.do', (⟨c.m.Type', c.m.Flags, c.m.Gateway, c.m.Radius, c.m.Time, c.m.Timed, c.m.TopicID, c.m.MsgID, c.m.Code, [], c.m.Data⟩ : Um), c.out, c.bad⟩ : Q3))))
theorem Zn {N} {c} {r} (h : Z0 N c = some r) : gU 95 (.ptr 0 0 :: []) (.cells (V5 c 1) :: .cells (Zz (cI .u8) c.out) :: []) (.tuple []) (.cells (V5 r.2 2) :: .dead :: .cells (Zz (cI .u8) r.2.out) :: []) := by
 refine Wr k95 (Lt rfl) ?_;unfold Z0 at h;rw [cX] at h;refine Q8 Qu0 ?_;apply iU h <;> intro h
 ·refine Qi ?_;refine Q0w [] (r := iI 0) rfl rfl (fun a ha o ho => ?_) (Q8 Qq4 ?_) ?_
  ·simp at ha
  ·refine Q8 Qq9 ?_;exact ⟨rfl, [], (Ng _).symm⟩
  refine Q0w [] (r := iS []) rfl rfl (fun a ha o ho => ?_) (Q8 Qjo ?_) ?_
  ·simp at ha
  ·refine Q8 Qgw ?_;exact ⟨rfl, [], (Ng _).symm⟩
  obtain rfl := Qj h;show Exists _;exact ⟨(rho [0, 1, 1]), Zq⟩
 apply iU h <;> intro h
 ·refine Qi ?_;refine Q4c (b := c.m.Name) ?_;apply iU h <;> intro h
  ·obtain rfl := Qj h;show Exists _;exact ⟨(rho [0, 1, 1]), Zq⟩
  obtain ⟨hk4, h⟩ := Q36 h;refine Jv (Wb (c := (cI .u8)) (e := 1) (l := c.out) (fun _ => rfl) sd hk4) ?_;refine Ut (c := (cI .u8)) (l := c.out) (c.m.Name.map fun b => (b.toNat : Int)) rfl ?_;obtain rfl := Qj h;show Exists _;exact ⟨(rho [0, 1, 2]), Zq⟩
 obtain rfl := Qj h;show Exists _;exact ⟨(rho [0, 1, 1]), Zq⟩
end
end
end Go.Av
