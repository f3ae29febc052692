/- The law. Part of a proof of a given statement: for every input the law returns true and the arguments read as before; no condition beyond the given row. -/
import Derived.Test.YtegedmcbfmfjeaaDoorLiftF1
namespace Go.Av
noncomputable section
open Go.Proofs
set_option maxRecDepth 100000
set_option maxHeartbeats 4000000
attribute [local irreducible] Y9 Zl Q0t Q0p Q90 Qb0 Q2j
section
def Wh (_N : Nat) (l : Zf) : Option (Bool) :=
 cond (Qc .geq l.MaxPacket 16)
 (cond (Qc .leq l.MaxPacket 1048576)
 (cond (Qc .geq l.MaxDepth 0)
 (some (Qc .leq l.MaxDepth 32))
 (some false))
 (some false))
 (some false)
theorem Js {N} {l} {r} (h : Wh N l = some r) : Yr Tryd.prog G1 50 [.agg (Zf.cells l)] (.bool r) := by
 refine Qe k50 ?_
 unfold Wh at h
 rw [cX] at h
 apply iU h <;> intro h
 ·apply iU h <;> intro h
  ·apply iU h <;> intro h
   ·cases h; exact (.p _)
   ·cases h; exact (.p _)
  ·cases h; exact (.p _)
 ·cases h; exact (.p _)
def Wf (_N : Nat) (n_0 : Int) : Option (Bool) :=
 cond (Qc .eql n_0 0)
 (some true)
 (some (Qc .eql n_0 1))
theorem Ji {N} {n_0} {r} (h : Wf N n_0 = some r) : Yr Tryd.prog G1 52 [.int .i64 n_0] (.bool r) := by
 refine Qe k52 ?_
 unfold Wf at h
 rw [cX] at h
 apply iU h <;> intro h
 ·cases h; exact (.p _)
 ·cases h; exact (.p _)
def Zk (N : Nat) (s_0 : List UInt8) (l : Zf) : Option (Int × Int) :=
 (Wh N l).bind fun v1 =>
 cond (!v1)
 (some (0, 2))
 (cond (Qc .lss (s_0.length : Int) 8)
 (some (0, 3))
 ((idx s_0 0).bind fun b5 =>
 (idx s_0 1).bind fun b7 =>
 (idx s_0 2).bind fun b9 =>
 (idx s_0 3).bind fun b11 =>
 (idx s_0 4).bind fun b13 =>
 (idx s_0 5).bind fun b15 =>
 (idx s_0 6).bind fun b17 =>
 (idx s_0 7).bind fun b19 =>
 (V0 N [UInt8.ofNat (b5.toNat : Int).toNat, UInt8.ofNat (b7.toNat : Int).toNat, UInt8.ofNat (b9.toNat : Int).toNat, UInt8.ofNat (b11.toNat : Int).toNat]).bind fun v21 =>
 cond (Qc .gtr v21 (IntKind.wrap .u64 l.MaxPacket))
 (some (0, 4))
 (cond (Qc .lss v21 8)
 (some (0, 5))
 (cond (Qc .lss (b13.toNat : Int) 2)
 (some (0, 5))
 (cond (Qc .gtr (IntKind.wrap .u64 ((IntKind.wrap .u64 (b13.toNat : Int)) * 4)) v21)
 (some (0, 5))
 ((Wf N (IntKind.wrap .i64 (b15.toNat : Int))).bind fun v27 =>
 cond (!v27)
 (some (0, 8))
 (some ((IntKind.wrap .i64 v21), 0))))))))
theorem Zi {N} {s_0} {l} {r} (h : Zk N s_0 l = some r) : Yr Tryd.prog G1 36 [.str s_0, .agg (Zf.cells l)] (.tuple [.int .i64 r.1, .int .i64 r.2]) := by
 refine Qe k36 ?_
 unfold Zk at h
 rw [cX] at h
 refine cP h Js (.cons q2 .nil) fun v1 h => ?_
 apply iU h <;> intro h
 ·obtain rfl := Qb h; exact u2
 ·apply iU h <;> intro h
  ·obtain rfl := Qb h; exact u2
  ·obtain ⟨b5, hy6, h⟩ := Vt h
   obtain ⟨b7, hy8, h⟩ := Vt h
   obtain ⟨b9, hy10, h⟩ := Vt h
   obtain ⟨b11, hy12, h⟩ := Vt h
   obtain ⟨b13, hy14, h⟩ := Vt h
   obtain ⟨b15, hy16, h⟩ := Vt h
   obtain ⟨b17, hy18, h⟩ := Vt h
   obtain ⟨b19, hy20, h⟩ := Vt h
   refine Qdw (l := [b5, b7, b9, b11, b13, b15, b17, b19]) (Qcn (Qcn (Qcn (Qcn (Qcn (Qcn (Qcn (Qcn Qgb hy6) hy8) hy10) hy12) hy14) hy16) hy18) hy20) ?_
   refine Qcw ?_
   refine cP h Vg p1 fun v21 h => ?_
   apply iU h <;> intro h
   ·obtain rfl := Qb h; exact u2
   ·apply iU h <;> intro h
    ·obtain rfl := Qb h; exact u2
    ·apply iU h <;> intro h
     ·obtain rfl := Qb h; exact u2
     ·apply iU h <;> intro h
      ·obtain rfl := Qb h; exact u2
      ·refine cP h Ji p1 fun v27 h => ?_
       apply iU h <;> intro h
       ·obtain rfl := Qb h; exact u2
       ·obtain rfl := Qb h; exact u2
def Zu (_N : Nat) (x : Q4) (e : Int) : Option ((Bool) × Q4) :=
 some (false, (⟨x.l, [], 0, x.at', 0, e, x.next, x.out⟩ : Q4))
theorem X4 {N} {x} {e} {r} (h : Zu N x e = some r) : GC Tryd.prog G1 53 (.ptr 0 0 :: .p (.int .i64 e) :: []) (.cells (.p (.int .i64 x.l.MaxPacket) :: .p (.int .i64 x.l.MaxDepth) :: .slice 1 1 0 x.kept.length :: .p (.int .i64 x.from') :: .p (.int .i64 x.at') :: .p (.int .i64 x.need) :: .p (.int .i64 x.e) :: .func (.func x.next) [.ptr 0 0] [] :: .slice 4 2 0 x.out.length :: []) :: .cells (Z2 (cI .u8) x.kept) :: .cells (Z2 Q8.cells x.out) :: []) (.p (.bool r.1)) (.cells (.p (.int .i64 r.2.l.MaxPacket) :: .p (.int .i64 r.2.l.MaxDepth) :: .slice 1 3 0 r.2.kept.length :: .p (.int .i64 r.2.from') :: .p (.int .i64 r.2.at') :: .p (.int .i64 r.2.need) :: .p (.int .i64 r.2.e) :: .func (.func r.2.next) [.ptr 0 0] [] :: .slice 4 4 0 r.2.out.length :: []) :: .dead :: .dead :: .cells (Z2 (cI .u8) r.2.kept) :: .cells (Z2 Q8.cells r.2.out) :: []) := by
 refine Vv k53 (Nat.le_of_ble_eq_true rfl) ?_
 unfold Zu at h
 obtain rfl := Qb h
 show Exists _
 exact ⟨(rho [0, 1, 2, 3, 2]), ⟨(rE rfl <| rN), (hC rfl (rE rfl <| rE rfl <| rS <| rE rfl <| rE rfl <| rE rfl <| rE rfl <| rE rfl <| rE rfl <| rN) <| hD <| hD <| hV lb <| hO rfl <| hN), rfl, rfl, (roE rfl <| roE rfl <| roE rfl <| roE (Q2 _ _ _) <| roE (Q2 _ _ _) <| roN)⟩⟩
end
end
end Go.Av
