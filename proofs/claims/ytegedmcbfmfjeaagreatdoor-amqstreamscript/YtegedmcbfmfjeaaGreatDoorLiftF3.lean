/- The law. Part of a proof of a given statement: for every input the law returns true and the arguments read as before; no condition beyond the given row. -/
import Derived.Test.YtegedmcbfmfjeaaGreatDoorLiftF2
namespace Go.Av
noncomputable section
open Go.Proofs
set_option maxRecDepth 100000
set_option maxHeartbeats 4000000
attribute [local irreducible] V9 Xn Q4u Q4y Qgk Qhv Q7o
section
def Yh (N : Nat) (k0 : Int → Option (Bool)) (items : List Q0) (i30 : Int) : Nat → Int → Option (Bool)
 | 0, _ => none
 | n + 1, k49 =>
  cond (Q7 .lss k49 i30)
  ((idx items i30).bind fun y51 =>
  (idx items k49).bind fun y53 =>
  (Yl N y51 y53).bind fun v55 =>
  cond v55
  (some true)
  (Yh N k0 items i30 n (IntKind.wrap .i64 (k49 + 2))))
  (k0 (IntKind.wrap .i64 (i30 + 2)))
def Zl (N : Nat) (items : List Q0) : Nat → Int → Option (Bool)
 | 0, _ => none
 | n + 1, i30 =>
  cond (Q7 .lss i30 ((Q0.rows items).length : Int))
  (Yh N (Zl N items n) items i30 N 0)
  (some false)
def Yn (N : Nat) (items : List Q0) : Option (Bool) :=
 Zl N items N 0
theorem Uv {N} {items} {r} (h : Yn N items = some r) : Xe Tryz.prog G1 53 [.slice 4 (Q0.rows items)] (.bool r) := by
 refine Qc k53 ?_
 unfold Yn at h
 refine lpC (τ := Int) (fun i30 => (.p (.slice 4 (Q0.rows items)) :: .any :: .any :: iI i30 :: a16 (a4 (.any :: [])) : List AV)) (fun _ => ([] : List AObj)) (fun n0 i30 => Zl N items n0 i30) (0) h (fun i => i) ⟨(rE rfl <| rW <| rE rfl <| rX <| rX <| rV <| rA <| rN), (hN), rfl, rfl, (roN)⟩ fun n0 i30 h => ?_
 simp only [Zl] at h
 rw [cX] at h
 apply iU h <;> intro h
 ·refine lpC (τ := Int) (fun k49 => (.p (.slice 4 (Q0.rows items)) :: .any :: .any :: iI i30 :: iI k49 :: a16 (a4 ([])) : List AV)) (fun _ => ([] : List AObj)) (fun n1 k49 => Yh N (Zl N items n0) items i30 n1 k49) (0) h (fun i => i) ⟨(rE rfl <| rW <| rE rfl <| rE rfl <| rX <| rX <| rV <| rN), (hN), rfl, rfl, (roN)⟩ fun n1 k49 h => ?_
  simp only [Yh] at h
  rw [cX] at h
  apply iU h <;> intro h
  ·refine Qb ?_
   refine Q0.xR h fun y51 h => ?_
   refine Q0.xR h fun y53 h => ?_
   refine cD h Q0h (.cons q4 (.cons q4 .nil)) fun v55 h => ?_
   apply iU h <;> intro h
   ·cases h; exact (.p _)
   ·show Exists _
    exact ⟨(n1, (IntKind.wrap .i64 (k49 + 2))), h, Nat.lt_succ_self _, (fun i => i), ⟨(rE rfl <| rW <| rE rfl <| rE rfl <| rX <| rX <| rV <| rN), (hN), rfl, rfl, (roN)⟩⟩
  ·show Exists _
   exact ⟨(n0, (IntKind.wrap .i64 (i30 + 2))), h, Nat.lt_succ_self _, (fun i => i), ⟨(rE rfl <| rW <| rE rfl <| rX <| rX <| rV <| rA <| rN), (hN), rfl, rfl, (roN)⟩⟩
 ·cases h; exact (.p _)
def Ym (_N : Nat) (l : Qe) : Option (Bool) :=
 cond (Q7 .geq l.MaxPacket 16)
 (cond (Q7 .leq l.MaxPacket 1048576)
 (cond (Q7 .geq l.MaxDepth 0)
 (some (Q7 .leq l.MaxDepth 32))
 (some false))
 (some false))
 (some false)
theorem W6 {N} {l} {r} (h : Ym N l = some r) : Xe Tryz.prog G1 31 [.agg (Qe.cells l)] (.bool r) := by
 refine Qc k31 ?_
 unfold Ym at h
 rw [cX] at h
 apply iU h <;> intro h
 ·apply iU h <;> intro h
  ·apply iU h <;> intro h
   ·cases h; exact (.p _)
   ·cases h; exact (.p _)
  ·cases h; exact (.p _)
 ·cases h; exact (.p _)
def Y2 (rz : Q0 → Q0 → Option (Bool)) (N : Nat) (a : Q0) (b : Q0) : Nat → Int → Option (Bool)
 | 0, _ => none
 | n + 1, i22 =>
  cond (Q7 .lss i22 ((Q0.rows a.Items).length : Int))
  ((idx a.Items i22).bind fun y24 =>
  (idx b.Items i22).bind fun y26 =>
  (rz y24 y26).bind fun v28 =>
  cond (!v28)
  (some false)
  (Y2 rz N a b n (IntKind.wrap .i64 (i22 + 1))))
  (some true)
def Wn (rz : Q0 → Q0 → Option (Bool)) (N : Nat) (a : Q0) (b : Q0) : Option (Bool) :=
 cond (Q7 .neq a.Kind b.Kind)
 (some false)
 (cond (Q7 .neq a.N' b.N')
 (some false)
 (cond (Q1q .neq a.Text b.Text)
 (some false)
 (cond (Q7 .neq ((Q0.rows a.Items).length : Int) ((Q0.rows b.Items).length : Int))
 (some false)
 (Y2 rz N a b N 0))))
theorem Gu {rz : Q0 → Q0 → Option (Bool)} (hy1 : ∀ {a} {b} {r}, rz a b = some r → Xe Tryz.prog G1 43 [.agg (Q0.cells a), .agg (Q0.cells b)] (.bool r)) {N} {a} {b} {r} (h : Wn rz N a b = some r) : Xe Tryz.prog G1 43 [.agg (Q0.cells a), .agg (Q0.cells b)] (.bool r) := by
 refine Qc k43 ?_
 unfold Wn at h
 rw [cX, cY] at h
 apply iU h <;> intro h
 ·cases h; exact (.p _)
 ·apply iU h <;> intro h
  ·cases h; exact (.p _)
  ·apply iU h <;> intro h
   ·cases h; exact (.p _)
   ·apply iU h <;> intro h
    ·cases h; exact (.p _)
    ·refine lpC (τ := Int) (fun i22 => (.any :: .any :: .ptr 0 0 :: .ptr 1 0 :: .any :: iI i22 :: a16 (a16 (a8 (a4 (a2 (.any :: []))))) : List AV)) (fun _ => (.cells (iI a.Kind :: iW a.N' :: iS a.Text :: .p (.slice 4 (Q0.rows a.Items)) :: []) :: .cells (iI b.Kind :: iW b.N' :: iS b.Text :: .p (.slice 4 (Q0.rows b.Items)) :: []) :: [] : List AObj)) (fun n0 i22 => Y2 rz N a b n0 i22) (0) h (fun i => i) ⟨(rW <| rE rfl <| rE rfl <| rA <| rE rfl <| rX <| rX <| rX <| rX <| rX <| rV <| rW <| rA <| rN), (hE rfl <| hE rfl <| hN), rfl, rfl, (roE rfl <| roE rfl <| roN)⟩ fun n0 i22 h => ?_
     simp only [Y2] at h
     rw [cX] at h
     apply iU h <;> intro h
     ·refine Qb ?_
      refine Q0.xR h fun y24 h => ?_
      refine Q0.xR h fun y26 h => ?_
      refine cD h hy1 (.cons q4 (.cons q4 .nil)) fun v28 h => ?_
      apply iU h <;> intro h
      ·cases h; exact (.p _)
      ·show Exists _
       exact ⟨(n0, (IntKind.wrap .i64 (i22 + 1))), h, Nat.lt_succ_self _, (fun i => i), ⟨(rW <| rE rfl <| rE rfl <| rA <| rE rfl <| rX <| rX <| rX <| rX <| rX <| rV <| rW <| rA <| rN), (hE rfl <| hE rfl <| hN), rfl, rfl, (roE rfl <| roE rfl <| roN)⟩⟩
     ·cases h; exact (.p _)
def Y6 : Nat → Q0 → Q0 → Option (Bool)
 | 0 => fun _ _ => none
 | N + 1 => Wn (Y6 N) N
theorem Gw {N} {a} {b} {r} (h : Y6 N a b = some r) : Xe Tryz.prog G1 43 [.agg (Q0.cells a), .agg (Q0.cells b)] (.bool r) := by
 induction N generalizing a b r with
 | zero => simp [Y6] at h
 | succ N ih => exact Gu (fun h => ih h) h
def Zd (N : Nat) (a : Q9) (b : Q9) : Nat → Int → Option (Bool)
 | 0, _ => none
 | n + 1, i22 =>
  cond (Q7 .lss i22 ((Q0.rows a.Values).length : Int))
  ((idx a.Values i22).bind fun y24 =>
  (idx b.Values i22).bind fun y26 =>
  (Y6 N y24 y26).bind fun v28 =>
  cond (!v28)
  (some false)
  (Zd N a b n (IntKind.wrap .i64 (i22 + 1))))
  (some true)
def Xj (N : Nat) (a : Q9) (b : Q9) : Option (Bool) :=
 cond (Q7 .neq a.Type' b.Type')
 (some false)
 (cond (Q7 .neq a.Channel b.Channel)
 (some false)
 (cond (Q1q .neq a.Ext b.Ext)
 (some false)
 (cond (Q7 .neq ((Q0.rows a.Values).length : Int) ((Q0.rows b.Values).length : Int))
 (some false)
 (Zd N a b N 0))))
theorem Gs {N} {a} {b} {r} (h : Xj N a b = some r) : Xe Tryz.prog G1 30 [.agg (Q9.cells a), .agg (Q9.cells b)] (.bool r) := by
 refine Qc k30 ?_
 unfold Xj at h
 rw [cX, cY] at h
 apply iU h <;> intro h
 ·cases h; exact (.p _)
 ·apply iU h <;> intro h
  ·cases h; exact (.p _)
  ·apply iU h <;> intro h
   ·cases h; exact (.p _)
   ·apply iU h <;> intro h
    ·cases h; exact (.p _)
    ·refine lpC (τ := Int) (fun i22 => (.any :: .any :: .ptr 0 0 :: .ptr 1 0 :: .any :: iI i22 :: a16 (a16 (a8 (a4 (a2 (.any :: []))))) : List AV)) (fun _ => (.cells (iI a.Type' :: iI a.Channel :: iS a.Ext :: .p (.slice 4 (Q0.rows a.Values)) :: []) :: .cells (iI b.Type' :: iI b.Channel :: iS b.Ext :: .p (.slice 4 (Q0.rows b.Values)) :: []) :: [] : List AObj)) (fun n0 i22 => Zd N a b n0 i22) (0) h (fun i => i) ⟨(rW <| rE rfl <| rE rfl <| rA <| rE rfl <| rX <| rX <| rX <| rX <| rX <| rV <| rW <| rA <| rN), (hE rfl <| hE rfl <| hN), rfl, rfl, (roE rfl <| roE rfl <| roN)⟩ fun n0 i22 h => ?_
     simp only [Zd] at h
     rw [cX] at h
     apply iU h <;> intro h
     ·refine Qb ?_
      refine Q0.xR h fun y24 h => ?_
      refine Q0.xR h fun y26 h => ?_
      refine cD h Gw (.cons q4 (.cons q4 .nil)) fun v28 h => ?_
      apply iU h <;> intro h
      ·cases h; exact (.p _)
      ·show Exists _
       exact ⟨(n0, (IntKind.wrap .i64 (i22 + 1))), h, Nat.lt_succ_self _, (fun i => i), ⟨(rW <| rE rfl <| rE rfl <| rA <| rE rfl <| rX <| rX <| rX <| rX <| rX <| rV <| rW <| rA <| rN), (hE rfl <| hE rfl <| hN), rfl, rfl, (roE rfl <| roE rfl <| roN)⟩⟩
     ·cases h; exact (.p _)
def Y0 (N : Nat) (a : List Q9) (b : List Q9) : Nat → Int → Option (Bool)
 | 0, _ => none
 | n + 1, i19 =>
  cond (Q7 .lss i19 ((Qv Q9.cells a).length : Int))
  ((idx a i19).bind fun y21 =>
  (idx b i19).bind fun y23 =>
  (Xj N y21 y23).bind fun v25 =>
  cond (!v25)
  (some false)
  (Y0 N a b n (IntKind.wrap .i64 (i19 + 1))))
  (some true)
def Zo (N : Nat) (a : List Q9) (b : List Q9) : Option (Bool) :=
 cond (Q7 .neq ((Qv Q9.cells a).length : Int) ((Qv Q9.cells b).length : Int))
 (some false)
 (Y0 N a b N 0)
theorem Xi {N} {a} {b} {r} (h : Zo N a b = some r) : Xe Tryz.prog G1 13 [.slice 4 (Qv Q9.cells a), .slice 4 (Qv Q9.cells b)] (.bool r) := by
 refine Qc k13 ?_
 unfold Zo at h
 rw [cX] at h
 apply iU h <;> intro h
 ·cases h; exact (.p _)
 ·refine lpC (τ := Int) (fun i19 => (.p (.slice 4 (Qv Q9.cells a)) :: .p (.slice 4 (Qv Q9.cells b)) :: a2 (.any :: iI i19 :: a16 (a4 (.any :: []))) : List AV)) (fun _ => ([] : List AObj)) (fun n0 i19 => Y0 N a b n0 i19) (0) h (fun i => i) ⟨(rE rfl <| rE rfl <| rW <| rA <| rE rfl <| rX <| rX <| rV <| rA <| rN), (hN), rfl, rfl, (roN)⟩ fun n0 i19 h => ?_
  simp only [Y0] at h
  rw [cX] at h
  apply iU h <;> intro h
  ·refine Qb ?_
   refine xR h fun y21 h => ?_
   refine xR h fun y23 h => ?_
   refine cD h Gs (.cons q4 (.cons q4 .nil)) fun v25 h => ?_
   apply iU h <;> intro h
   ·cases h; exact (.p _)
   ·show Exists _
    exact ⟨(n0, (IntKind.wrap .i64 (i19 + 1))), h, Nat.lt_succ_self _, (fun i => i), ⟨(rE rfl <| rE rfl <| rW <| rA <| rE rfl <| rX <| rX <| rV <| rA <| rN), (hN), rfl, rfl, (roN)⟩⟩
  ·cases h; exact (.p _)
def W2 (_N : Nat) (x : Q5) : Option ((Int) × Q5) :=
 some (x.at', x)
theorem Q0c {N} {x} {r} (h : W2 N x = some r) : GC Tryz.prog G1 15 (.ptr 0 0 :: []) (.cells (.p (.int .i64 x.l.MaxPacket) :: .p (.int .i64 x.l.MaxDepth) :: .slice 1 1 0 x.kept.length :: .p (.int .i64 x.from') :: .p (.int .i64 x.at') :: .p (.int .i64 x.need) :: .p (.int .i64 x.e) :: .func (.func x.next) [.ptr 0 0] [] :: .slice 4 2 0 x.out.length :: []) :: .cells (Yf (cI .u8) x.kept) :: .cells (Yf Q9.cells x.out) :: []) (.p (.int .i64 r.1)) (.cells (.p (.int .i64 r.2.l.MaxPacket) :: .p (.int .i64 r.2.l.MaxDepth) :: .slice 1 3 0 r.2.kept.length :: .p (.int .i64 r.2.from') :: .p (.int .i64 r.2.at') :: .p (.int .i64 r.2.need) :: .p (.int .i64 r.2.e) :: .func (.func r.2.next) [.ptr 0 0] [] :: .slice 4 4 0 r.2.out.length :: []) :: .dead :: .dead :: .cells (Yf (cI .u8) r.2.kept) :: .cells (Yf Q9.cells r.2.out) :: []) := by
 refine Q2j k15 (Nat.le_of_ble_eq_true rfl) ?_
 unfold W2 at h
 obtain rfl := Qa h
 show Exists _
 exact ⟨(rho [0, 1, 2, 1, 2]), ⟨(rE rfl <| rN), (hE rfl <| hD <| hD <| hO rfl <| hO rfl <| hN), rfl, rfl, (roE rfl <| roE rfl <| roE rfl <| roE (Q2 _ _ _) <| roE (Q2 _ _ _) <| roN)⟩⟩
def Yc (N : Nat) (s_0 : List UInt8) : Nat → Int → Int → Option (Int)
 | 0, _, _ => none
 | n + 1, n9, i10 =>
  cond (Q7 .lss i10 (s_0.length : Int))
  ((idx s_0 i10).bind fun b12 =>
  Yc N s_0 n (orI .u64 (Jh .u64 n9 8) (IntKind.wrap .u64 (b12.toNat : Int))) (IntKind.wrap .i64 (i10 + 1)))
  (some n9)
def Z8 (N : Nat) (s_0 : List UInt8) : Option (Int) :=
 Yc N s_0 N 0 0
theorem Yb {N} {s_0} {r} (h : Z8 N s_0 = some r) : Xe Tryz.prog G1 45 [.str s_0] (.int .u64 r) := by
 refine Qc k45 ?_
 unfold Z8 at h
 refine lpC (τ := Int × Int) (fun ⟨n9, i10⟩ => (iS s_0 :: .any :: .any :: iW n9 :: iI i10 :: a8 (a4 (a2 ([]))) : List AV)) (fun ⟨_, _⟩ => ([] : List AObj)) (fun n0 ⟨n9, i10⟩ => Yc N s_0 n0 n9 i10) (0, 0) h (fun i => i) ⟨(rE rfl <| rW <| rE rfl <| rE rfl <| rX <| rV <| rW <| rN), (hN), rfl, rfl, (roN)⟩ fun n0 ⟨n9, i10⟩ h => ?_
 simp only [Yc] at h
 rw [cX] at h
 apply iU h <;> intro h
 ·refine xB h fun b12 h => ?_
  show Exists _
  exact ⟨(n0, (orI .u64 (Jh .u64 n9 8) (IntKind.wrap .u64 (b12.toNat : Int))), (IntKind.wrap .i64 (i10 + 1))), h, Nat.lt_succ_self _, (fun i => i), ⟨(rE rfl <| rW <| rE rfl <| rE rfl <| rX <| rV <| rW <| rN), (hN), rfl, rfl, (roN)⟩⟩
 ·cases h; exact (.p _)
def Wc (N : Nat) (s_0 : List UInt8) (l : Qe) : Option (Int × Int) :=
 (Ym N l).bind fun v1 =>
 cond (!v1)
 (some (0, 2))
 (cond (Q7 .lss (s_0.length : Int) 8)
 (some (0, 3))
 (cond (Nat.ble 0 4 && Nat.ble 4 s_0.length) ((Z8 N ((s_0.take 4).drop 0)).bind fun v6 =>
 cond (Q7 .gtr v6 (IntKind.wrap .u64 l.MaxPacket))
 (some (0, 4))
 (cond (Q7 .lss v6 8)
 (some (0, 5))
 ((idx s_0 4).bind fun b10 =>
 cond (Q7 .lss (b10.toNat : Int) 2)
 (some (0, 5))
 ((idx s_0 4).bind fun b13 =>
 cond (Q7 .gtr (IntKind.wrap .u64 (4 * (IntKind.wrap .u64 (b13.toNat : Int)))) v6)
 (some (0, 5))
 ((idx s_0 5).bind fun b16 =>
 cond (Q7 .neq (IntKind.wrap .i64 (b16.toNat : Int)) 0)
 ((idx s_0 5).bind fun b19 =>
 cond (Q7 .neq (IntKind.wrap .i64 (b19.toNat : Int)) 1)
 (some (0, 8))
 (some ((IntKind.wrap .i64 v6), 0)))
 (some ((IntKind.wrap .i64 v6), 0))))))) none))
theorem Q19 {N} {s_0} {l} {r} (h : Wc N s_0 l = some r) : Xe Tryz.prog G1 44 [.str s_0, .agg (Qe.cells l)] (.tuple [.int .i64 r.1, .int .i64 r.2]) := by
 refine Qc k44 ?_
 unfold Wc at h
 rw [cX] at h
 refine cP h W6 (.cons q2 .nil) fun v1 h => ?_
 apply iU h <;> intro h
 ·obtain rfl := Qa h; exact u2
 ·apply iU h <;> intro h
  ·obtain rfl := Qa h; exact u2
  ·refine kU h fun h => ?_
   refine cP h Yb p1 fun v6 h => ?_
   apply iU h <;> intro h
   ·obtain rfl := Qa h; exact u2
   ·apply iU h <;> intro h
    ·obtain rfl := Qa h; exact u2
    ·refine xB h fun b10 h => ?_
     apply iU h <;> intro h
     ·obtain rfl := Qa h; exact u2
     ·refine xB h fun b13 h => ?_
      apply iU h <;> intro h
      ·obtain rfl := Qa h; exact u2
      ·refine xB h fun b16 h => ?_
       apply iU h <;> intro h
       ·refine xB h fun b19 h => ?_
        apply iU h <;> intro h
        ·obtain rfl := Qa h; exact u2
        ·obtain rfl := Qa h; exact u2
       ·obtain rfl := Qa h; exact u2
def W0 (N : Nat) (n_0 : Int) (kind : Int) (width : Int) : Option (Int) :=
 (Ql N kind).bind fun v1 =>
 cond (Q7 .lss v1 0)
 (cond (decide (0 ≤ (IntKind.wrap .u64 (IntKind.wrap .i64 ((IntKind.wrap .i64 (8 * width)) - 1))))) (cond (Q7 .geq n_0 (Jh .u64 1 (IntKind.wrap .u64 (IntKind.wrap .i64 ((IntKind.wrap .i64 (8 * width)) - 1)))))
 (some (IntKind.wrap .u64 ((IntKind.wrap .u64 (n_0 - (Jh .u64 1 (IntKind.wrap .u64 (IntKind.wrap .i64 ((IntKind.wrap .i64 (8 * width)) - 1)))))) - (Jh .u64 1 (IntKind.wrap .u64 (IntKind.wrap .i64 ((IntKind.wrap .i64 (8 * width)) - 1)))))))
 (some n_0)) none)
 (cond (Q7 .eql kind 10)
 (cond (decide (0 ≤ (IntKind.wrap .u64 (IntKind.wrap .i64 ((IntKind.wrap .i64 (8 * width)) - 1))))) (cond (Q7 .geq n_0 (Jh .u64 1 (IntKind.wrap .u64 (IntKind.wrap .i64 ((IntKind.wrap .i64 (8 * width)) - 1)))))
 (some (IntKind.wrap .u64 ((IntKind.wrap .u64 (n_0 - (Jh .u64 1 (IntKind.wrap .u64 (IntKind.wrap .i64 ((IntKind.wrap .i64 (8 * width)) - 1)))))) - (Jh .u64 1 (IntKind.wrap .u64 (IntKind.wrap .i64 ((IntKind.wrap .i64 (8 * width)) - 1)))))))
 (some n_0)) none)
 (some n_0))
theorem Q0g {N} {n_0} {kind} {width} {r} (h : W0 N n_0 kind width = some r) : Xe Tryz.prog G1 73 [.int .u64 n_0, .int .i64 kind, .int .i64 width] (.int .u64 r) := by
 refine Qc k73 ?_
 unfold W0 at h
 rw [cX] at h
 refine cP h Ja p1 fun v1 h => ?_
 apply iU h <;> intro h
 ·refine kU h fun h => ?_
  apply iU h <;> intro h
  ·cases h; exact (.p _)
  ·cases h; exact (.p _)
 ·apply iU h <;> intro h
  ·refine kU h fun h => ?_
   apply iU h <;> intro h
   ·cases h; exact (.p _)
   ·cases h; exact (.p _)
  ·cases h; exact (.p _)
def Wy (N : Nat) (code : Int) (s_1 : List UInt8) : Option (Q0 × Int × Int) :=
 (Yz N code).bind fun v1 =>
 cond (!v1.2)
 (some ((⟨0, 0, [], []⟩ : Q0), 0, 8))
 (cond v1.1.Items
 (some ((⟨0, 0, [], []⟩ : Q0), 0, 8))
 (cond (Q7 .lss (s_1.length : Int) v1.1.Width)
 (some ((⟨0, 0, [], []⟩ : Q0), 0, 3))
 (cond v1.1.Sized
 (cond (decide (0 ≤ v1.1.Width)) (cond (Nat.ble 0 v1.1.Width.toNat && Nat.ble v1.1.Width.toNat s_1.length) ((Z8 N ((s_1.take v1.1.Width.toNat).drop 0)).bind fun v9 =>
 cond (Q7 .gtr v9 (IntKind.wrap .u64 (IntKind.wrap .i64 ((s_1.length : Int) - v1.1.Width))))
 (some ((⟨0, 0, [], []⟩ : Q0), 0, 3))
 (cond (decide (0 ≤ (IntKind.wrap .i64 (v1.1.Width + (IntKind.wrap .i64 v9))))) (cond (Nat.ble v1.1.Width.toNat ((IntKind.wrap .i64 (v1.1.Width + (IntKind.wrap .i64 v9))).toNat) && Nat.ble ((IntKind.wrap .i64 (v1.1.Width + (IntKind.wrap .i64 v9))).toNat) s_1.length) ((Zh N (⟨v1.1.Kind, 0, ((s_1.take ((IntKind.wrap .i64 (v1.1.Width + (IntKind.wrap .i64 v9))).toNat)).drop v1.1.Width.toNat), []⟩ : Q0)).bind fun v14 =>
 cond (Q7 .eql v14 2)
 (some ((⟨0, 0, [], []⟩ : Q0), 0, 5))
 (cond (Q7 .neq v14 0)
 (some ((⟨0, 0, [], []⟩ : Q0), 0, v14))
 (some ((⟨v1.1.Kind, 0, ((s_1.take ((IntKind.wrap .i64 (v1.1.Width + (IntKind.wrap .i64 v9))).toNat)).drop v1.1.Width.toNat), []⟩ : Q0), (IntKind.wrap .i64 (v1.1.Width + (IntKind.wrap .i64 v9))), 0)))) none) none)) none) none)
 (cond (Q7 .eql v1.1.Width 16)
 (cond (Nat.ble 0 16 && Nat.ble 16 s_1.length) ((Zh N (⟨v1.1.Kind, 0, ((s_1.take 16).drop 0), []⟩ : Q0)).bind fun v20 =>
 cond (Q7 .eql v20 2)
 (some ((⟨0, 0, [], []⟩ : Q0), 0, 5))
 (cond (Q7 .neq v20 0)
 (some ((⟨0, 0, [], []⟩ : Q0), 0, v20))
 (some ((⟨v1.1.Kind, 0, ((s_1.take 16).drop 0), []⟩ : Q0), v1.1.Width, 0)))) none)
 (cond (Q7 .eql code 65)
 ((Zh N (⟨v1.1.Kind, 1, [], []⟩ : Q0)).bind fun v25 =>
 cond (Q7 .eql v25 2)
 (some ((⟨0, 0, [], []⟩ : Q0), 0, 5))
 (cond (Q7 .neq v25 0)
 (some ((⟨0, 0, [], []⟩ : Q0), 0, v25))
 (some ((⟨v1.1.Kind, 1, [], []⟩ : Q0), v1.1.Width, 0))))
 (cond (Q7 .gtr v1.1.Width 0)
 (cond (decide (0 ≤ v1.1.Width)) (cond (Nat.ble 0 v1.1.Width.toNat && Nat.ble v1.1.Width.toNat s_1.length) ((Z8 N ((s_1.take v1.1.Width.toNat).drop 0)).bind fun v32 =>
 (W0 N v32 v1.1.Kind v1.1.Width).bind fun v34 =>
 (Zh N (⟨v1.1.Kind, v34, [], []⟩ : Q0)).bind fun v36 =>
 cond (Q7 .eql v36 2)
 (some ((⟨0, 0, [], []⟩ : Q0), 0, 5))
 (cond (Q7 .neq v36 0)
 (some ((⟨0, 0, [], []⟩ : Q0), 0, v36))
 (some ((⟨v1.1.Kind, v34, [], []⟩ : Q0), v1.1.Width, 0)))) none) none)
 ((Zh N (⟨v1.1.Kind, 0, [], []⟩ : Q0)).bind fun v40 =>
 cond (Q7 .eql v40 2)
 (some ((⟨0, 0, [], []⟩ : Q0), 0, 5))
 (cond (Q7 .neq v40 0)
 (some ((⟨0, 0, [], []⟩ : Q0), 0, v40))
 (some ((⟨v1.1.Kind, 0, [], []⟩ : Q0), v1.1.Width, 0))))))))))
theorem Q1s {N} {code} {s_1} {r} (h : Wy N code s_1 = some r) : Xe Tryz.prog G1 59 [.int .i64 code, .str s_1] (.tuple [.agg (Q0.cells r.1), .int .i64 r.2.1, .int .i64 r.2.2]) := by
 refine Qc k59 ?_
 unfold Wy at h
 rw [cX] at h
 refine cP h V5 p1 fun v1 h => ?_
 apply iU h <;> intro h
 ·obtain rfl := Qa h; exact (Frz.tuple' (.cons q4n p2))
 ·apply iU h <;> intro h
  ·obtain rfl := Qa h; exact (Frz.tuple' (.cons q4n p2))
  ·apply iU h <;> intro h
   ·obtain rfl := Qa h; exact (Frz.tuple' (.cons q4n p2))
   ·apply iU h <;> intro h
    ·obtain ⟨hk7, h⟩ := Jx h
     refine Uw hk7 ?_
     refine kU h fun h => ?_
     refine cP h Yb p1 fun v9 h => ?_
     apply iU h <;> intro h
     ·obtain rfl := Qa h; exact (Frz.tuple' (.cons q4n p2))
     ·refine Uw hk7 ?_
      refine kU h fun h => ?_
      refine kU h fun h => ?_
      refine cP h X7 (.cons q4n .nil) fun v14 h => ?_
      apply iU h <;> intro h
      ·refine ifT (cF (by decide)) ?_
       obtain rfl := Qa h; exact (Frz.tuple' (.cons q4n p2))
      ·apply iU h <;> intro h
       ·obtain rfl := Qa h; exact (Frz.tuple' (.cons q4n p2))
       ·obtain rfl := Qa h; exact (Frz.tuple' (.cons q4n p2))
    ·apply iU h <;> intro h
     ·refine kU h fun h => ?_
      refine cP h X7 (.cons q4n .nil) fun v20 h => ?_
      apply iU h <;> intro h
      ·refine ifT (cF (by decide)) ?_
       obtain rfl := Qa h; exact (Frz.tuple' (.cons q4n p2))
      ·apply iU h <;> intro h
       ·obtain rfl := Qa h; exact (Frz.tuple' (.cons q4n p2))
       ·obtain rfl := Qa h; exact (Frz.tuple' (.cons q4n p2))
     ·apply iU h <;> intro h
      ·refine cP h X7 (.cons q4n .nil) fun v25 h => ?_
       apply iU h <;> intro h
       ·refine ifT (cF (by decide)) ?_
        obtain rfl := Qa h; exact (Frz.tuple' (.cons q4n p2))
       ·apply iU h <;> intro h
        ·obtain rfl := Qa h; exact (Frz.tuple' (.cons q4n p2))
        ·obtain rfl := Qa h; exact (Frz.tuple' (.cons q4n p2))
      ·apply iU h <;> intro h
       ·refine Qb ?_
        refine kU h fun h => ?_
        refine kU h fun h => ?_
        refine cD h Yb p1 fun v32 h => ?_
        refine cD h Q0g p3 fun v34 h => ?_
        refine cP h X7 (.cons q4n .nil) fun v36 h => ?_
        apply iU h <;> intro h
        ·refine ifT (cF (by decide)) ?_
         obtain rfl := Qa h; exact (Frz.tuple' (.cons q4n p2))
        ·apply iU h <;> intro h
         ·obtain rfl := Qa h; exact (Frz.tuple' (.cons q4n p2))
         ·obtain rfl := Qa h; exact (Frz.tuple' (.cons q4n p2))
       ·refine cP h X7 (.cons q4n .nil) fun v40 h => ?_
        apply iU h <;> intro h
        ·refine ifT (cF (by decide)) ?_
         obtain rfl := Qa h; exact (Frz.tuple' (.cons q4n p2))
        ·apply iU h <;> intro h
         ·obtain rfl := Qa h; exact (Frz.tuple' (.cons q4n p2))
         ·obtain rfl := Qa h; exact (Frz.tuple' (.cons q4n p2))
end
end
end Go.Av
