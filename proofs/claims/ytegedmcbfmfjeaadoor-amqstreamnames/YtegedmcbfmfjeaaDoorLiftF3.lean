/- The law. Part of a proof of a given statement: for every input the law returns true and the arguments read as before; no condition beyond the given row. -/
import Derived.Test.YtegedmcbfmfjeaaDoorLiftF2
namespace Go.Av
noncomputable section
open Go.Proofs
set_option maxRecDepth 100000
set_option maxHeartbeats 4000000
attribute [local irreducible] Y9 Zl Q0t Q0p Q90 Qb0 Q2j
section
def Yp (N : Nat) (s_0 : List UInt8) (l : Zf) (v1 : Int × Int) (b5 : UInt8) (b7 : UInt8) (v10 : Int) : Nat → (List UInt8) → (List Q0) → Option (Q8 × Int × Int)
 | 0, _, _ => none
 | n + 1, left34, l35 =>
  cond (Q6t .neq left34 [])
  (cond (Qc .eql (l35.length : Int) 1000)
  (some ((⟨0, 0, [], []⟩ : Q8), 0, 4))
  ((Uw N left34 l.MaxDepth).bind fun v38 =>
  cond (Qc .eql v38.2.2 3)
  (some ((⟨0, 0, [], []⟩ : Q8), 0, 5))
  (cond (Qc .neq v38.2.2 0)
  (some ((⟨0, 0, [], []⟩ : Q8), 0, v38.2.2))
  (cond (Nat.ble ((l35.length + 1 + 4096) * 56) 17592186044416) (cond (decide (0 ≤ v38.2.1)) (cond (Nat.ble v38.2.1.toNat left34.length && Nat.ble left34.length left34.length) (Yp N s_0 l v1 b5 b7 v10 n ((left34.take left34.length).drop v38.2.1.toNat) (l35 ++ [v38.1])) none) none) none))))
  (some ((⟨(IntKind.wrap .i64 (b7.toNat : Int)), (IntKind.wrap .i64 v10), ((s_0.take ((IntKind.wrap .i64 (4 * (IntKind.wrap .i64 (b5.toNat : Int)))).toNat)).drop 8), l35⟩ : Q8), v1.1, 0))
def Wz (N : Nat) (s_0 : List UInt8) (l : Zf) : Option (Q8 × Int × Int) :=
 (Zk N s_0 l).bind fun v1 =>
 cond (Qc .neq v1.2 0)
 (some ((⟨0, 0, [], []⟩ : Q8), 0, v1.2))
 (cond (Qc .lss (s_0.length : Int) v1.1)
 (some ((⟨0, 0, [], []⟩ : Q8), 0, 3))
 ((idx s_0 4).bind fun b5 =>
 (idx s_0 5).bind fun b7 =>
 cond (Nat.ble 6 8 && Nat.ble 8 s_0.length) ((V0 N ((s_0.take 8).drop 6)).bind fun v10 =>
 cond (decide (0 ≤ (IntKind.wrap .i64 (4 * (IntKind.wrap .i64 (b5.toNat : Int)))))) (cond (Nat.ble 8 ((IntKind.wrap .i64 (4 * (IntKind.wrap .i64 (b5.toNat : Int)))).toNat) && Nat.ble ((IntKind.wrap .i64 (4 * (IntKind.wrap .i64 (b5.toNat : Int)))).toNat) s_0.length) (cond (decide (0 ≤ v1.1)) (cond (Nat.ble (IntKind.wrap .i64 (4 * (IntKind.wrap .i64 (b5.toNat : Int)))).toNat v1.1.toNat && Nat.ble v1.1.toNat s_0.length) (Yp N s_0 l v1 b5 b7 v10 N ((s_0.take v1.1.toNat).drop ((IntKind.wrap .i64 (4 * (IntKind.wrap .i64 (b5.toNat : Int)))).toNat)) []) none) none) none) none) none))
theorem G3 {N} {s_0} {l} {r} (h : Wz N s_0 l = some r) : Yr Tryd.prog G1 77 [.str s_0, .agg (Zf.cells l)] (.tuple [.agg (Q8.cells r.1), .int .i64 r.2.1, .int .i64 r.2.2]) := by
 refine Qe k77 ?_
 unfold Wz at h
 rw [cX] at h
 refine cP h Zi (.cons (.p _) (.cons q2 .nil)) fun v1 h => ?_
 apply iU h <;> intro h
 ·obtain rfl := Qb h; exact (Frz.tuple' (.cons q4n p2))
 ·apply iU h <;> intro h
  ·obtain rfl := Qb h; exact (Frz.tuple' (.cons q4n p2))
  ·refine xB h fun b5 h => ?_
   refine Q7 ?_
   refine xB h fun b7 h => ?_
   refine kU h fun h => ?_
   refine cD h Vg p1 fun v10 h => ?_
   obtain ⟨hk12, h⟩ := Vq h
   refine V5 hk12 ?_
   refine kU h fun h => ?_
   refine V5 hk12 ?_
   refine kU h fun h => ?_
   refine kU h fun h => ?_
   refine lpC (τ := (List UInt8) × (List Q0)) (fun ⟨left34, _⟩ => (a2 (.any :: .ptr 0 0 :: .ptr 1 0 :: iI v1.1 :: .any :: .any :: iS left34 :: a16 (a16 (a16 (a16 (a4 (.any :: [])))))) : List AV)) (fun ⟨_, l35⟩ => (.cells (iI l.MaxPacket :: iI l.MaxDepth :: []) :: .cells (iI (IntKind.wrap .i64 (b7.toNat : Int)) :: iI (IntKind.wrap .i64 v10) :: .p (.str ((s_0.take ((IntKind.wrap .i64 (4 * (IntKind.wrap .i64 (b5.toNat : Int)))).toNat)).drop 8)) :: .slice 4 2 0 l35.length :: []) :: .cells (Z2 Q0.cells l35) :: [] : List AObj)) (fun n0 ⟨left34, l35⟩ => Yp N s_0 l v1 b5 b7 v10 n0 left34 l35) (((s_0.take v1.1.toNat).drop ((IntKind.wrap .i64 (4 * (IntKind.wrap .i64 (b5.toNat : Int)))).toNat)), []) h (fun i => i) ⟨(rW <| rA <| rE rfl <| rE rfl <| rE rfl <| rW <| rE rfl <| rX <| rX <| rX <| rX <| rX <| rX <| rX <| rX <| rV <| rA <| rN), (hE rfl <| hC rfl (rE rfl <| rE rfl <| rE rfl <| rS <| rN) <| hV lb <| hN), rfl, rfl, (roE rfl <| roE rfl <| roE (Q2 _ _ _) <| roN)⟩ fun n0 ⟨left34, l35⟩ h => ?_
   simp only [Yp] at h
   rw [cX, cY] at h
   apply iU h <;> intro h
   ·apply iU h <;> intro h
    ·obtain rfl := Qb h; exact (Frz.tuple' (.cons q4n p2))
    ·refine cP h Ge p2 fun v38 h => ?_
     apply iU h <;> intro h
     ·refine ifT (cF (by decide)) ?_
      obtain rfl := Qb h; exact (Frz.tuple' (.cons q4n p2))
     ·apply iU h <;> intro h
      ·obtain rfl := Qb h; exact (Frz.tuple' (.cons q4n p2))
      ·obtain ⟨hk42, h⟩ := Vq h
       refine V5 (Ys (c := Q0.cells) (e := 4) (fun _ => rfl) (by first | (simp; done) | (simp [Qp]; done)) hk42) ?_
       refine W6 (c := Q0.cells) [v38.1] rfl ?_
       refine kU h fun h => ?_
       refine kU h fun h => ?_
       show Exists _
       exact ⟨(n0, ((left34.take left34.length).drop v38.2.1.toNat), (l35 ++ [v38.1])), h, Nat.lt_succ_self _, (rho [0, 1, 5]), ⟨(rW <| rA <| rE rfl <| rE rfl <| rE rfl <| rW <| rE rfl <| rX <| rX <| rX <| rX <| rX <| rX <| rX <| rX <| rV <| rA <| rN), (hE rfl <| hC rfl (rE rfl <| rE rfl <| rE rfl <| rL (by first | (simp; done) | (simp [Qp]; done)) rfl <| rN) <| hO rfl <| hN), rfl, rfl, (roE rfl <| roE rfl <| roE (Q2 _ _ _) <| roN)⟩⟩
   ·obtain rfl := Qb h; exact (Frz.tuple' (.cons (Frz.agg' (.cons (.p _) (.cons (.p _) (.cons (.p _) (.cons (Q0.frz_own (l := l35) rfl trivial (by first | (simp; done) | (simp [Qp]; done))) .nil))))) p2))
def Zr (N : Nat) (x : Q4) : Option ((Bool) × Q4) :=
 cond (decide (0 ≤ x.from')) (cond (Nat.ble x.from'.toNat x.kept.length && Nat.ble x.kept.length x.kept.length) (cond (Qc .lss (((x.kept.length - x.from'.toNat) : Nat) : Int) x.need)
 (some (false, x))
 (cond (decide (0 ≤ x.need)) (cond (Nat.ble 0 x.need.toNat && Nat.ble x.need.toNat (x.kept.length - x.from'.toNat)) ((Wz N ((((x.kept : List Int).drop (0 + x.from'.toNat * 1)).take x.need.toNat).map fun n => UInt8.ofNat n.toNat) x.l).bind fun v6 =>
 cond (Qc .neq v6.2.2 0)
 ((Zu N x v6.2.2).bind fun v9 =>
 some (v9.1, v9.2))
 (cond (Nat.ble ((x.out.length + 1 + 4096) * 56) 17592186044416) ((idx ((x.out ++ [(⟨0, 0, [], []⟩ : Q8)]) : List Q8) (x.out.length : Int)).bind fun y12 =>
 some (true, (⟨x.l, x.kept, (IntKind.wrap .i64 (x.from' + v6.2.1)), (IntKind.wrap .i64 (x.at' + v6.2.1)), x.need, x.e, 37, (((x.out ++ [(⟨0, 0, [], []⟩ : Q8)]) : List Q8).set (Int.toNat (x.out.length : Int)) v6.1)⟩ : Q4))) none)) none) none)) none) none
theorem X2 {N} {x} {r} (h : Zr N x = some r) : GC Tryd.prog G1 54 (.ptr 0 0 :: []) (.cells (.p (.int .i64 x.l.MaxPacket) :: .p (.int .i64 x.l.MaxDepth) :: .slice 1 1 0 x.kept.length :: .p (.int .i64 x.from') :: .p (.int .i64 x.at') :: .p (.int .i64 x.need) :: .p (.int .i64 x.e) :: .func (.func x.next) [.ptr 0 0] [] :: .slice 4 2 0 x.out.length :: []) :: .cells (Z2 (cI .u8) x.kept) :: .cells (Z2 Q8.cells x.out) :: []) (.p (.bool r.1)) (.cells (.p (.int .i64 r.2.l.MaxPacket) :: .p (.int .i64 r.2.l.MaxDepth) :: .slice 1 3 0 r.2.kept.length :: .p (.int .i64 r.2.from') :: .p (.int .i64 r.2.at') :: .p (.int .i64 r.2.need) :: .p (.int .i64 r.2.e) :: .func (.func r.2.next) [.ptr 0 0] [] :: .slice 4 4 0 r.2.out.length :: []) :: .dead :: .dead :: .cells (Z2 (cI .u8) r.2.kept) :: .cells (Z2 Q8.cells r.2.out) :: []) := by
 refine Vv k54 (Nat.le_of_ble_eq_true rfl) ?_
 unfold Zr at h
 rw [cX] at h
 refine Ze k38 ?_
 refine Q7 ?_
 refine kU h fun h => ?_
 obtain ⟨hk2, h⟩ := Vq h
 refine V5 hk2 ?_
 apply iU h <;> intro h
 ·obtain rfl := Qb h
  show Exists _
  exact ⟨(rho [0, 1, 2, 1, 2]), ⟨(rE rfl <| rN), (hE rfl <| hD <| hD <| hO rfl <| hO rfl <| hN), rfl, rfl, (roE rfl <| roE rfl <| roE rfl <| roE (Q2 _ _ _) <| roE (Q2 _ _ _) <| roN)⟩⟩
 ·refine Q7 ?_
  refine kU h fun h => ?_
  obtain ⟨hk5, h⟩ := Vq h
  refine V5 hk5 ?_
  refine Qcl (l := x.kept) (off := (0 + x.from'.toNat * 1)) (n := x.need.toNat) (by have e : x.kept.length = (x.kept : List Int).length := (by first | (simp; done) | (simp [Qp]; done)); simp only [Bool.and_eq_true, Nat.ble_eq] at hk2 hk5; omega) ?_
  refine cD h G3 (.cons (.p _) (.cons q2 .nil)) fun v6 h => ?_
  apply iU h <;> intro h
  ·refine cG h X4 fun v9 h => ?_
   refine ⟨rho [0, 1, 2], (.cells (iI v9.2.l.MaxPacket :: iI v9.2.l.MaxDepth :: .slice 1 4 0 v9.2.kept.length :: iI v9.2.from' :: iI v9.2.at' :: iI v9.2.need :: iI v9.2.e :: .func (.func v9.2.next) [.ptr 0 0] [] :: .slice 4 5 0 v9.2.out.length :: []) :: .dead :: .dead :: .cells (iI v6.1.Type' :: iI v6.1.Channel :: iS v6.1.Ext :: .p (.slice 4 (Q0.rows v6.1.Values)) :: []) :: .cells (Z2 (cI .u8) v9.2.kept) :: .cells (Z2 Q8.cells v9.2.out) :: []), .p (.bool v9.1), ⟨(rE rfl <| rE rfl <| rN), (hE rfl <| hO rfl <| hO rfl <| hN), rfl, rfl, (roE rfl <| roE (Q2 _ _ _) <| roE (Q2 _ _ _) <| roN), rfl, (fR 0 rfl rfl rfl rfl <| fD <| fD <| fK rfl rfl <| fO 3 rfl rfl rfl <| fO 4 rfl rfl rfl <| fN), rfl⟩, ?_⟩
   obtain rfl := Qb h
   show Exists _
   exact ⟨(rho [0, 1, 2, 4, 5]), ⟨(rE rfl <| rN), (hE rfl <| hD <| hD <| hO rfl <| hO rfl <| hN), rfl, rfl, (roE rfl <| roE rfl <| roE rfl <| roE (Q2 _ _ _) <| roE (Q2 _ _ _) <| roN)⟩⟩
  ·refine Q7 ?_
   obtain ⟨hk11, h⟩ := Vq h
   refine V5 (Ys (c := Q8.cells) (e := 4) (fun _ => rfl) (by first | (simp; done) | (simp [Qp]; done)) hk11) ?_
   refine W6 (c := Q8.cells) [(⟨0, 0, [], []⟩ : Q8)] rfl ?_
   obtain ⟨y12, hy13, h⟩ := Vt h
   refine V5 (Q6e hy13 (by first | (simp; done) | (simp [Qp]; done))) ?_
   refine V5 (Qan (c := Q8.cells) (e := 4) (fun _ => rfl) hy13 (off := 0) (by omega) rfl (by decide)) ?_
   refine Q9e (c := Q8.cells) (e := 4) (fun _ => rfl) hy13 v6.1 (off := 0) (by first | omega | (simp only [Q9r, orI, Qff, Q6o, Q43, Qcf]; omega)) rfl (by simp) ?_
   obtain rfl := Qb h
   show Exists _
   exact ⟨(rho [0, 1, 2, 1, 5]), ⟨(rE rfl <| rN), (hC rfl (rE rfl <| rE rfl <| rE rfl <| rE rfl <| rE rfl <| rE rfl <| rE rfl <| rE rfl <| rL (by first | (simp; done) | (simp [Qp]; done)) rfl <| rN) <| hD <| hD <| hO rfl <| hO rfl <| hN), rfl, rfl, (roE rfl <| roE rfl <| roE rfl <| roE (Q2 _ _ _) <| roE (Q2 _ _ _) <| roN)⟩⟩
def Zt (N : Nat) (x : Q4) : Option ((Bool) × Q4) :=
 cond (decide (0 ≤ x.from')) (cond (Nat.ble x.from'.toNat x.kept.length && Nat.ble x.kept.length x.kept.length) (cond (Qc .lss (((x.kept.length - x.from'.toNat) : Nat) : Int) 8)
 (some (false, x))
 (cond (Nat.ble 0 8 && Nat.ble 8 (x.kept.length - x.from'.toNat)) ((Zk N ((((x.kept : List Int).drop (0 + x.from'.toNat * 1)).take 8).map fun n => UInt8.ofNat n.toNat) x.l).bind fun v5 =>
 cond (Qc .neq v5.2 0)
 ((Zu N x v5.2).bind fun v8 =>
 some (v8.1, v8.2))
 (some (true, (⟨x.l, x.kept, x.from', x.at', v5.1, x.e, 54, x.out⟩ : Q4)))) none)) none) none
theorem X3 {N} {x} {r} (h : Zt N x = some r) : GC Tryd.prog G1 37 (.ptr 0 0 :: []) (.cells (.p (.int .i64 x.l.MaxPacket) :: .p (.int .i64 x.l.MaxDepth) :: .slice 1 1 0 x.kept.length :: .p (.int .i64 x.from') :: .p (.int .i64 x.at') :: .p (.int .i64 x.need) :: .p (.int .i64 x.e) :: .func (.func x.next) [.ptr 0 0] [] :: .slice 4 2 0 x.out.length :: []) :: .cells (Z2 (cI .u8) x.kept) :: .cells (Z2 Q8.cells x.out) :: []) (.p (.bool r.1)) (.cells (.p (.int .i64 r.2.l.MaxPacket) :: .p (.int .i64 r.2.l.MaxDepth) :: .slice 1 3 0 r.2.kept.length :: .p (.int .i64 r.2.from') :: .p (.int .i64 r.2.at') :: .p (.int .i64 r.2.need) :: .p (.int .i64 r.2.e) :: .func (.func r.2.next) [.ptr 0 0] [] :: .slice 4 4 0 r.2.out.length :: []) :: .dead :: .dead :: .cells (Z2 (cI .u8) r.2.kept) :: .cells (Z2 Q8.cells r.2.out) :: []) := by
 refine Vv k37 (Nat.le_of_ble_eq_true rfl) ?_
 unfold Zt at h
 rw [cX] at h
 refine Ze k38 ?_
 refine Q7 ?_
 refine kU h fun h => ?_
 obtain ⟨hk2, h⟩ := Vq h
 refine V5 hk2 ?_
 apply iU h <;> intro h
 ·obtain rfl := Qb h
  show Exists _
  exact ⟨(rho [0, 1, 2, 1, 2]), ⟨(rE rfl <| rN), (hE rfl <| hD <| hD <| hO rfl <| hO rfl <| hN), rfl, rfl, (roE rfl <| roE rfl <| roE rfl <| roE (Q2 _ _ _) <| roE (Q2 _ _ _) <| roN)⟩⟩
 ·refine Q7 ?_
  obtain ⟨hk4, h⟩ := Vq h
  refine V5 hk4 ?_
  refine Qcl (l := x.kept) (off := (0 + x.from'.toNat * 1)) (n := 8) (by have e : x.kept.length = (x.kept : List Int).length := (by first | (simp; done) | (simp [Qp]; done)); simp only [Bool.and_eq_true, Nat.ble_eq] at hk2 hk4; omega) ?_
  refine cD h Zi (.cons (.p _) (.cons q2 .nil)) fun v5 h => ?_
  apply iU h <;> intro h
  ·refine cG h X4 fun v8 h => ?_
   refine ⟨rho [0, 1, 2], (.cells (iI v8.2.l.MaxPacket :: iI v8.2.l.MaxDepth :: .slice 1 3 0 v8.2.kept.length :: iI v8.2.from' :: iI v8.2.at' :: iI v8.2.need :: iI v8.2.e :: .func (.func v8.2.next) [.ptr 0 0] [] :: .slice 4 4 0 v8.2.out.length :: []) :: .dead :: .dead :: .cells (Z2 (cI .u8) v8.2.kept) :: .cells (Z2 Q8.cells v8.2.out) :: []), .p (.bool v8.1), ⟨(rE rfl <| rE rfl <| rN), (hE rfl <| hO rfl <| hO rfl <| hN), rfl, rfl, (roE rfl <| roE (Q2 _ _ _) <| roE (Q2 _ _ _) <| roN), rfl, (fR 0 rfl rfl rfl rfl <| fD <| fD <| fO 3 rfl rfl rfl <| fO 4 rfl rfl rfl <| fN), rfl⟩, ?_⟩
   obtain rfl := Qb h
   show Exists _
   exact ⟨(rho [0, 1, 2, 3, 4]), ⟨(rE rfl <| rN), (hE rfl <| hD <| hD <| hO rfl <| hO rfl <| hN), rfl, rfl, (roE rfl <| roE rfl <| roE rfl <| roE (Q2 _ _ _) <| roE (Q2 _ _ _) <| roN)⟩⟩
  ·obtain rfl := Qb h
   show Exists _
   exact ⟨(rho [0, 1, 2, 1, 2]), ⟨(rE rfl <| rN), (hE rfl <| hD <| hD <| hO rfl <| hO rfl <| hN), rfl, rfl, (roE rfl <| roE rfl <| roE rfl <| roE (Q2 _ _ _) <| roE (Q2 _ _ _) <| roN)⟩⟩
def Zb (N : Nat) : Nat → Int → Int → Int → Int → Int → Int → Nat → (List Int) → (List Q8) → Option (((List Q8) × Int) × Q4)
 | 0, _, _, _, _, _, _, _, _, _ => none
 | n + 1, c28, c29, c30, c31, c32, c33, q34, l35, l36 =>
  cond (Nat.beq q34 37)
  ((Zt N (⟨(⟨c28, c29⟩ : Zf), l35, c30, c31, c32, c33, 37, l36⟩ : Q4)).bind fun v38 =>
  cond v38.1
  (Zb N n v38.2.l.MaxPacket v38.2.l.MaxDepth v38.2.from' v38.2.at' v38.2.need v38.2.e v38.2.next v38.2.kept v38.2.out)
  (cond (Qc .gtr v38.2.from' 0)
  (cond (decide (0 ≤ v38.2.from')) (cond (Nat.ble v38.2.from'.toNat v38.2.kept.length && Nat.ble v38.2.kept.length v38.2.kept.length) (cond (Nat.ble 1 v38.2.kept.length) (cond (Nat.ble 0 (((((v38.2.kept : List Int).drop (0 + v38.2.from'.toNat * 1)).take (v38.2.kept.length - v38.2.from'.toNat)).take v38.2.kept.length).length) && Nat.ble (((((v38.2.kept : List Int).drop (0 + v38.2.from'.toNat * 1)).take (v38.2.kept.length - v38.2.from'.toNat)).take v38.2.kept.length).length) v38.2.kept.length) (some ((v38.2.out, v38.2.e), (⟨v38.2.l, (((((((v38.2.kept : List Int).drop (0 + v38.2.from'.toNat * 1)).take (v38.2.kept.length - v38.2.from'.toNat)).take v38.2.kept.length) ++ (v38.2.kept : List Int).drop ((((v38.2.kept : List Int).drop (0 + v38.2.from'.toNat * 1)).take (v38.2.kept.length - v38.2.from'.toNat)).take v38.2.kept.length).length) : List Int).take (((((v38.2.kept : List Int).drop (0 + v38.2.from'.toNat * 1)).take (v38.2.kept.length - v38.2.from'.toNat)).take v38.2.kept.length).length)), 0, v38.2.at', v38.2.need, v38.2.e, v38.2.next, []⟩ : Q4))) none) none) none) none)
  (some ((v38.2.out, v38.2.e), (⟨v38.2.l, v38.2.kept, v38.2.from', v38.2.at', v38.2.need, v38.2.e, v38.2.next, []⟩ : Q4)))))
  (cond (Nat.beq q34 54)
  ((Zr N (⟨(⟨c28, c29⟩ : Zf), l35, c30, c31, c32, c33, 54, l36⟩ : Q4)).bind fun v47 =>
  cond v47.1
  (Zb N n v47.2.l.MaxPacket v47.2.l.MaxDepth v47.2.from' v47.2.at' v47.2.need v47.2.e v47.2.next v47.2.kept v47.2.out)
  (cond (Qc .gtr v47.2.from' 0)
  (cond (decide (0 ≤ v47.2.from')) (cond (Nat.ble v47.2.from'.toNat v47.2.kept.length && Nat.ble v47.2.kept.length v47.2.kept.length) (cond (Nat.ble 1 v47.2.kept.length) (cond (Nat.ble 0 (((((v47.2.kept : List Int).drop (0 + v47.2.from'.toNat * 1)).take (v47.2.kept.length - v47.2.from'.toNat)).take v47.2.kept.length).length) && Nat.ble (((((v47.2.kept : List Int).drop (0 + v47.2.from'.toNat * 1)).take (v47.2.kept.length - v47.2.from'.toNat)).take v47.2.kept.length).length) v47.2.kept.length) (some ((v47.2.out, v47.2.e), (⟨v47.2.l, (((((((v47.2.kept : List Int).drop (0 + v47.2.from'.toNat * 1)).take (v47.2.kept.length - v47.2.from'.toNat)).take v47.2.kept.length) ++ (v47.2.kept : List Int).drop ((((v47.2.kept : List Int).drop (0 + v47.2.from'.toNat * 1)).take (v47.2.kept.length - v47.2.from'.toNat)).take v47.2.kept.length).length) : List Int).take (((((v47.2.kept : List Int).drop (0 + v47.2.from'.toNat * 1)).take (v47.2.kept.length - v47.2.from'.toNat)).take v47.2.kept.length).length)), 0, v47.2.at', v47.2.need, v47.2.e, v47.2.next, []⟩ : Q4))) none) none) none) none)
  (some ((v47.2.out, v47.2.e), (⟨v47.2.l, v47.2.kept, v47.2.from', v47.2.at', v47.2.need, v47.2.e, v47.2.next, []⟩ : Q4)))))
  (none))
def Za (N : Nat) : Nat → Int → Int → Int → Int → Int → Int → Nat → (List Int) → (List Q8) → Option (((List Q8) × Int) × Q4)
 | 0, _, _, _, _, _, _, _, _, _ => none
 | n + 1, c81, c82, c83, c84, c85, c86, q87, l88, l89 =>
  cond (Nat.beq q87 37)
  ((Zt N (⟨(⟨c81, c82⟩ : Zf), l88, c83, c84, c85, c86, 37, l89⟩ : Q4)).bind fun v91 =>
  cond v91.1
  (Za N n v91.2.l.MaxPacket v91.2.l.MaxDepth v91.2.from' v91.2.at' v91.2.need v91.2.e v91.2.next v91.2.kept v91.2.out)
  (cond (Qc .gtr v91.2.from' 0)
  (cond (decide (0 ≤ v91.2.from')) (cond (Nat.ble v91.2.from'.toNat v91.2.kept.length && Nat.ble v91.2.kept.length v91.2.kept.length) (cond (Nat.ble 1 v91.2.kept.length) (cond (Nat.ble 0 (((((v91.2.kept : List Int).drop (0 + v91.2.from'.toNat * 1)).take (v91.2.kept.length - v91.2.from'.toNat)).take v91.2.kept.length).length) && Nat.ble (((((v91.2.kept : List Int).drop (0 + v91.2.from'.toNat * 1)).take (v91.2.kept.length - v91.2.from'.toNat)).take v91.2.kept.length).length) v91.2.kept.length) (some ((v91.2.out, v91.2.e), (⟨v91.2.l, (((((((v91.2.kept : List Int).drop (0 + v91.2.from'.toNat * 1)).take (v91.2.kept.length - v91.2.from'.toNat)).take v91.2.kept.length) ++ (v91.2.kept : List Int).drop ((((v91.2.kept : List Int).drop (0 + v91.2.from'.toNat * 1)).take (v91.2.kept.length - v91.2.from'.toNat)).take v91.2.kept.length).length) : List Int).take (((((v91.2.kept : List Int).drop (0 + v91.2.from'.toNat * 1)).take (v91.2.kept.length - v91.2.from'.toNat)).take v91.2.kept.length).length)), 0, v91.2.at', v91.2.need, v91.2.e, v91.2.next, []⟩ : Q4))) none) none) none) none)
  (some ((v91.2.out, v91.2.e), (⟨v91.2.l, v91.2.kept, v91.2.from', v91.2.at', v91.2.need, v91.2.e, v91.2.next, []⟩ : Q4)))))
  (cond (Nat.beq q87 54)
  ((Zr N (⟨(⟨c81, c82⟩ : Zf), l88, c83, c84, c85, c86, 54, l89⟩ : Q4)).bind fun v100 =>
  cond v100.1
  (Za N n v100.2.l.MaxPacket v100.2.l.MaxDepth v100.2.from' v100.2.at' v100.2.need v100.2.e v100.2.next v100.2.kept v100.2.out)
  (cond (Qc .gtr v100.2.from' 0)
  (cond (decide (0 ≤ v100.2.from')) (cond (Nat.ble v100.2.from'.toNat v100.2.kept.length && Nat.ble v100.2.kept.length v100.2.kept.length) (cond (Nat.ble 1 v100.2.kept.length) (cond (Nat.ble 0 (((((v100.2.kept : List Int).drop (0 + v100.2.from'.toNat * 1)).take (v100.2.kept.length - v100.2.from'.toNat)).take v100.2.kept.length).length) && Nat.ble (((((v100.2.kept : List Int).drop (0 + v100.2.from'.toNat * 1)).take (v100.2.kept.length - v100.2.from'.toNat)).take v100.2.kept.length).length) v100.2.kept.length) (some ((v100.2.out, v100.2.e), (⟨v100.2.l, (((((((v100.2.kept : List Int).drop (0 + v100.2.from'.toNat * 1)).take (v100.2.kept.length - v100.2.from'.toNat)).take v100.2.kept.length) ++ (v100.2.kept : List Int).drop ((((v100.2.kept : List Int).drop (0 + v100.2.from'.toNat * 1)).take (v100.2.kept.length - v100.2.from'.toNat)).take v100.2.kept.length).length) : List Int).take (((((v100.2.kept : List Int).drop (0 + v100.2.from'.toNat * 1)).take (v100.2.kept.length - v100.2.from'.toNat)).take v100.2.kept.length).length)), 0, v100.2.at', v100.2.need, v100.2.e, v100.2.next, []⟩ : Q4))) none) none) none) none)
  (some ((v100.2.out, v100.2.e), (⟨v100.2.l, v100.2.kept, v100.2.from', v100.2.at', v100.2.need, v100.2.e, v100.2.next, []⟩ : Q4)))))
  (none))
def Qs (N : Nat) (x : Q4) (chunk : List UInt8) : Option (((List Q8) × Int) × Q4) :=
 cond (Qc .neq x.e 0)
 (some (([], x.e), x))
 (cond (Nat.beq chunk.length 0)
 (Zb N N x.l.MaxPacket x.l.MaxDepth x.from' x.at' x.need x.e x.next x.kept x.out)
 (cond (Nat.ble ((x.kept.length + chunk.length + 4096) * 1) 17592186044416) (Za N N x.l.MaxPacket x.l.MaxDepth x.from' x.at' x.need x.e x.next (x.kept ++ (chunk.map fun b => (b.toNat : Int))) x.out) none))
theorem Z1 {N} {x} {chunk} {r} (h : Qs N x chunk = some r) : GC Tryd.prog G1 18 (.ptr 0 0 :: .p (.str chunk) :: []) (.cells (.p (.int .i64 x.l.MaxPacket) :: .p (.int .i64 x.l.MaxDepth) :: .slice 1 1 0 x.kept.length :: .p (.int .i64 x.from') :: .p (.int .i64 x.at') :: .p (.int .i64 x.need) :: .p (.int .i64 x.e) :: .func (.func x.next) [.ptr 0 0] [] :: .slice 4 2 0 x.out.length :: []) :: .cells (Z2 (cI .u8) x.kept) :: .cells (Z2 Q8.cells x.out) :: []) (.p (.tuple [.slice 4 (Qp Q8.cells r.1.1), .int .i64 r.1.2])) (.cells (.p (.int .i64 r.2.l.MaxPacket) :: .p (.int .i64 r.2.l.MaxDepth) :: .slice 1 3 0 r.2.kept.length :: .p (.int .i64 r.2.from') :: .p (.int .i64 r.2.at') :: .p (.int .i64 r.2.need) :: .p (.int .i64 r.2.e) :: .func (.func r.2.next) [.ptr 0 0] [] :: .slice 4 4 0 r.2.out.length :: []) :: .dead :: .dead :: .cells (Z2 (cI .u8) r.2.kept) :: .cells (Z2 Q8.cells r.2.out) :: []) := by
 refine Vv k18 (Nat.le_of_ble_eq_true rfl) ?_
 unfold Qs at h
 rw [cX] at h
 apply iU h <;> intro h
 ·refine Q7 ?_
  obtain rfl := Qb h
  show Exists _
  exact ⟨(rho [0, 1, 2, 1, 2]), ⟨(rF (Frz.tuple' (.cons (.nil _) p1)) <| rN), (hE rfl <| hD <| hD <| hO rfl <| hO rfl <| hN), rfl, rfl, (roE rfl <| roE rfl <| roE rfl <| roE (Q2 _ _ _) <| roE (Q2 _ _ _) <| roN)⟩⟩
 ·refine Qeg (b := chunk) ?_
  apply iU h <;> intro h
  ·refine lpC (τ := Int × Int × Int × Int × Int × Int × Nat × (List Int) × (List Q8)) (fun ⟨_, _, _, _, _, _, _, _, _⟩ => (.ptr 0 0 :: a16 (a16 (a16 (a16 (a4 ([]))))) : List AV)) (fun ⟨c28, c29, c30, c31, c32, c33, q34, l35, l36⟩ => (.cells (iI c28 :: iI c29 :: .slice 1 3 0 l35.length :: iI c30 :: iI c31 :: iI c32 :: iI c33 :: .func (.func q34) [.ptr 0 0] [] :: .slice 4 4 0 l36.length :: []) :: .dead :: .dead :: .cells (Z2 (cI .u8) l35) :: .cells (Z2 Q8.cells l36) :: [] : List AObj)) (fun n0 ⟨c28, c29, c30, c31, c32, c33, q34, l35, l36⟩ => Zb N n0 c28 c29 c30 c31 c32 c33 q34 l35 l36) (x.l.MaxPacket, x.l.MaxDepth, x.from', x.at', x.need, x.e, x.next, x.kept, x.out) h (rho [0, 1, 2, 1, 2]) ⟨(rE rfl <| rX <| rX <| rX <| rX <| rX <| rX <| rX <| rX <| rV <| rN), (hE rfl <| hD <| hD <| hO rfl <| hO rfl <| hN), rfl, rfl, (roE rfl <| roE rfl <| roE rfl <| roE (Q2 _ _ _) <| roE (Q2 _ _ _) <| roN)⟩ fun n0 ⟨c28, c29, c30, c31, c32, c33, q34, l35, l36⟩ h => ?_
   simp only [Zb] at h
   rw [cX] at h
   refine fnU h (fun e h => ?_) fun h => ?_
   ·subst e
    refine cG h X3 fun v38 h => ?_
    refine ⟨rho [0, 3, 4], (.cells (iI v38.2.l.MaxPacket :: iI v38.2.l.MaxDepth :: .slice 1 5 0 v38.2.kept.length :: iI v38.2.from' :: iI v38.2.at' :: iI v38.2.need :: iI v38.2.e :: .func (.func v38.2.next) [.ptr 0 0] [] :: .slice 4 6 0 v38.2.out.length :: []) :: .dead :: .dead :: .dead :: .dead :: .cells (Z2 (cI .u8) v38.2.kept) :: .cells (Z2 Q8.cells v38.2.out) :: []), .p (.bool v38.1), ⟨(rE rfl <| rN), (hE rfl <| hO rfl <| hO rfl <| hN), rfl, rfl, (roE rfl <| roE (Q2 _ _ _) <| roE (Q2 _ _ _) <| roN), rfl, (fR 0 rfl rfl rfl rfl <| fD <| fD <| fD <| fD <| fO 3 rfl rfl rfl <| fO 4 rfl rfl rfl <| fN), rfl⟩, ?_⟩
    apply iU h <;> intro h
    ·show Exists _
     exact ⟨(n0, v38.2.l.MaxPacket, v38.2.l.MaxDepth, v38.2.from', v38.2.at', v38.2.need, v38.2.e, v38.2.next, v38.2.kept, v38.2.out), h, Nat.lt_succ_self _, (rho [0, 1, 2, 5, 6]), ⟨(rE rfl <| rX <| rX <| rX <| rX <| rX <| rX <| rX <| rX <| rV <| rN), (hE rfl <| hD <| hD <| hO rfl <| hO rfl <| hN), rfl, rfl, (roE rfl <| roE rfl <| roE rfl <| roE (Q2 _ _ _) <| roE (Q2 _ _ _) <| roN)⟩⟩
    ·apply iU h <;> intro h
     ·refine Q7 ?_
      obtain ⟨hk42, h⟩ := Vq h
      obtain ⟨hk43, h⟩ := Vq h
      refine Wr [0] (r := .slice 1 5 (0 + v38.2.from'.toNat * 1) (v38.2.kept.length - v38.2.from'.toNat)) rfl rfl (fun a ha o ho => ?_) (Ze k38 ?_) ?_
      ·simp only [List.mem_cons, List.mem_nil_iff, or_false] at ha; subst ha; cases ho; rfl
      ·refine Q7 ?_
       refine V5 hk42 ?_
       refine V5 hk43 ?_
       exact ⟨rfl, [], (List.append_nil _).symm⟩
      refine Q76 (l := v38.2.kept) (off := (0 + v38.2.from'.toNat * 1)) (n := (v38.2.kept.length - v38.2.from'.toNat)) (by have e : v38.2.kept.length = (v38.2.kept : List Int).length := (by first | (simp; done) | (simp [Qp]; done)); simp only [Bool.and_eq_true, Nat.ble_eq] at hk43; omega) ?_
      obtain ⟨hk44, h⟩ := Vq h
      refine V5 (Q0y (c := (cI .u8)) (l := (v38.2.kept : List Int)) (fun _ => rfl) (by first | (simp; done) | (simp [Qp]; done)) hk44) ?_
      refine Q4f (c := (cI .u8)) (l := (v38.2.kept : List Int)) (new := (((v38.2.kept : List Int).drop (0 + v38.2.from'.toNat * 1)).take (v38.2.kept.length - v38.2.from'.toNat))) (fun _ => rfl) ?_
      obtain ⟨hk45, h⟩ := Vq h
      refine V5 hk45 ?_
      refine Q7 ?_
      obtain rfl := Qb h
      show Exists _
      exact ⟨(rho [0, 1, 2, 5, 8]), ⟨(rF (Frz.tuple' (.cons (frz_own (c := Q8.cells) (l := (v38.2.out : List Q8)) (fun _ => rfl) rfl rfl (by first | (simp; done) | (simp [Qp]; done))) p1)) <| rN), (hC rfl (rE rfl <| rE rfl <| rL (List.length_take_of_le (l := ((((((v38.2.kept : List Int).drop (0 + v38.2.from'.toNat * 1)).take (v38.2.kept.length - v38.2.from'.toNat)).take v38.2.kept.length) ++ (v38.2.kept : List Int).drop ((((v38.2.kept : List Int).drop (0 + v38.2.from'.toNat * 1)).take (v38.2.kept.length - v38.2.from'.toNat)).take v38.2.kept.length).length) : List Int)) (by have e : v38.2.kept.length = ((((((v38.2.kept : List Int).drop (0 + v38.2.from'.toNat * 1)).take (v38.2.kept.length - v38.2.from'.toNat)).take v38.2.kept.length) ++ (v38.2.kept : List Int).drop ((((v38.2.kept : List Int).drop (0 + v38.2.from'.toNat * 1)).take (v38.2.kept.length - v38.2.from'.toNat)).take v38.2.kept.length).length) : List Int).length := (by simp <;> omega); simp only [Bool.and_eq_true, Nat.ble_eq] at hk45; omega)).symm rfl <| rE rfl <| rE rfl <| rE rfl <| rE rfl <| rE rfl <| rS <| rN) <| hD <| hD <| Qez (((((v38.2.kept : List Int).drop (0 + v38.2.from'.toNat * 1)).take (v38.2.kept.length - v38.2.from'.toNat)).take v38.2.kept.length).length) rfl <| hV lb <| hN), rfl, rfl, (roE rfl <| roE rfl <| roE rfl <| roE (Q2 _ _ _) <| roE (Q2 _ _ _) <| roN)⟩⟩
     ·refine Q7 ?_
      obtain rfl := Qb h
      show Exists _
      exact ⟨(rho [0, 1, 2, 5, 8]), ⟨(rF (Frz.tuple' (.cons (frz_own (c := Q8.cells) (l := (v38.2.out : List Q8)) (fun _ => rfl) rfl rfl (by first | (simp; done) | (simp [Qp]; done))) p1)) <| rN), (hC rfl (rE rfl <| rE rfl <| rE rfl <| rE rfl <| rE rfl <| rE rfl <| rE rfl <| rE rfl <| rS <| rN) <| hD <| hD <| hO rfl <| hV lb <| hN), rfl, rfl, (roE rfl <| roE rfl <| roE rfl <| roE (Q2 _ _ _) <| roE (Q2 _ _ _) <| roN)⟩⟩
   ·skip
    refine fnU h (fun e h => ?_) fun h => ?_
    ·subst e
     refine cG h X2 fun v47 h => ?_
     refine ⟨rho [0, 3, 4], (.cells (iI v47.2.l.MaxPacket :: iI v47.2.l.MaxDepth :: .slice 1 5 0 v47.2.kept.length :: iI v47.2.from' :: iI v47.2.at' :: iI v47.2.need :: iI v47.2.e :: .func (.func v47.2.next) [.ptr 0 0] [] :: .slice 4 6 0 v47.2.out.length :: []) :: .dead :: .dead :: .dead :: .dead :: .cells (Z2 (cI .u8) v47.2.kept) :: .cells (Z2 Q8.cells v47.2.out) :: []), .p (.bool v47.1), ⟨(rE rfl <| rN), (hE rfl <| hO rfl <| hO rfl <| hN), rfl, rfl, (roE rfl <| roE (Q2 _ _ _) <| roE (Q2 _ _ _) <| roN), rfl, (fR 0 rfl rfl rfl rfl <| fD <| fD <| fD <| fD <| fO 3 rfl rfl rfl <| fO 4 rfl rfl rfl <| fN), rfl⟩, ?_⟩
     apply iU h <;> intro h
     ·show Exists _
      exact ⟨(n0, v47.2.l.MaxPacket, v47.2.l.MaxDepth, v47.2.from', v47.2.at', v47.2.need, v47.2.e, v47.2.next, v47.2.kept, v47.2.out), h, Nat.lt_succ_self _, (rho [0, 1, 2, 5, 6]), ⟨(rE rfl <| rX <| rX <| rX <| rX <| rX <| rX <| rX <| rX <| rV <| rN), (hE rfl <| hD <| hD <| hO rfl <| hO rfl <| hN), rfl, rfl, (roE rfl <| roE rfl <| roE rfl <| roE (Q2 _ _ _) <| roE (Q2 _ _ _) <| roN)⟩⟩
     ·apply iU h <;> intro h
      ·refine Q7 ?_
       obtain ⟨hk51, h⟩ := Vq h
       obtain ⟨hk52, h⟩ := Vq h
       refine Wr [0] (r := .slice 1 5 (0 + v47.2.from'.toNat * 1) (v47.2.kept.length - v47.2.from'.toNat)) rfl rfl (fun a ha o ho => ?_) (Ze k38 ?_) ?_
       ·simp only [List.mem_cons, List.mem_nil_iff, or_false] at ha; subst ha; cases ho; rfl
       ·refine Q7 ?_
        refine V5 hk51 ?_
        refine V5 hk52 ?_
        exact ⟨rfl, [], (List.append_nil _).symm⟩
       refine Q76 (l := v47.2.kept) (off := (0 + v47.2.from'.toNat * 1)) (n := (v47.2.kept.length - v47.2.from'.toNat)) (by have e : v47.2.kept.length = (v47.2.kept : List Int).length := (by first | (simp; done) | (simp [Qp]; done)); simp only [Bool.and_eq_true, Nat.ble_eq] at hk52; omega) ?_
       obtain ⟨hk53, h⟩ := Vq h
       refine V5 (Q0y (c := (cI .u8)) (l := (v47.2.kept : List Int)) (fun _ => rfl) (by first | (simp; done) | (simp [Qp]; done)) hk53) ?_
       refine Q4f (c := (cI .u8)) (l := (v47.2.kept : List Int)) (new := (((v47.2.kept : List Int).drop (0 + v47.2.from'.toNat * 1)).take (v47.2.kept.length - v47.2.from'.toNat))) (fun _ => rfl) ?_
       obtain ⟨hk54, h⟩ := Vq h
       refine V5 hk54 ?_
       refine Q7 ?_
       obtain rfl := Qb h
       show Exists _
       exact ⟨(rho [0, 1, 2, 5, 8]), ⟨(rF (Frz.tuple' (.cons (frz_own (c := Q8.cells) (l := (v47.2.out : List Q8)) (fun _ => rfl) rfl rfl (by first | (simp; done) | (simp [Qp]; done))) p1)) <| rN), (hC rfl (rE rfl <| rE rfl <| rL (List.length_take_of_le (l := ((((((v47.2.kept : List Int).drop (0 + v47.2.from'.toNat * 1)).take (v47.2.kept.length - v47.2.from'.toNat)).take v47.2.kept.length) ++ (v47.2.kept : List Int).drop ((((v47.2.kept : List Int).drop (0 + v47.2.from'.toNat * 1)).take (v47.2.kept.length - v47.2.from'.toNat)).take v47.2.kept.length).length) : List Int)) (by have e : v47.2.kept.length = ((((((v47.2.kept : List Int).drop (0 + v47.2.from'.toNat * 1)).take (v47.2.kept.length - v47.2.from'.toNat)).take v47.2.kept.length) ++ (v47.2.kept : List Int).drop ((((v47.2.kept : List Int).drop (0 + v47.2.from'.toNat * 1)).take (v47.2.kept.length - v47.2.from'.toNat)).take v47.2.kept.length).length) : List Int).length := (by simp <;> omega); simp only [Bool.and_eq_true, Nat.ble_eq] at hk54; omega)).symm rfl <| rE rfl <| rE rfl <| rE rfl <| rE rfl <| rE rfl <| rS <| rN) <| hD <| hD <| Qez (((((v47.2.kept : List Int).drop (0 + v47.2.from'.toNat * 1)).take (v47.2.kept.length - v47.2.from'.toNat)).take v47.2.kept.length).length) rfl <| hV lb <| hN), rfl, rfl, (roE rfl <| roE rfl <| roE rfl <| roE (Q2 _ _ _) <| roE (Q2 _ _ _) <| roN)⟩⟩
      ·refine Q7 ?_
       obtain rfl := Qb h
       show Exists _
       exact ⟨(rho [0, 1, 2, 5, 8]), ⟨(rF (Frz.tuple' (.cons (frz_own (c := Q8.cells) (l := (v47.2.out : List Q8)) (fun _ => rfl) rfl rfl (by first | (simp; done) | (simp [Qp]; done))) p1)) <| rN), (hC rfl (rE rfl <| rE rfl <| rE rfl <| rE rfl <| rE rfl <| rE rfl <| rE rfl <| rE rfl <| rS <| rN) <| hD <| hD <| hO rfl <| hV lb <| hN), rfl, rfl, (roE rfl <| roE rfl <| roE rfl <| roE (Q2 _ _ _) <| roE (Q2 _ _ _) <| roN)⟩⟩
    ·skip
     first | (cases h; done) | (simp [Qao] at h; done)
  ·obtain ⟨hk55, h⟩ := Vq h
   refine V5 (Ys (c := (cI .u8)) (e := 1) (l := x.kept) (fun _ => rfl) (by first | (simp; done) | (simp [Qp]; done)) hk55) ?_
   refine W6 (c := (cI .u8)) (l := x.kept) (chunk.map fun b => (b.toNat : Int)) rfl ?_
   refine lpC (τ := Int × Int × Int × Int × Int × Int × Nat × (List Int) × (List Q8)) (fun ⟨_, _, _, _, _, _, _, _, _⟩ => (.ptr 0 0 :: a16 (a16 (a16 (a16 (a4 ([]))))) : List AV)) (fun ⟨c81, c82, c83, c84, c85, c86, q87, l88, l89⟩ => (.cells (iI c81 :: iI c82 :: .slice 1 4 0 l88.length :: iI c83 :: iI c84 :: iI c85 :: iI c86 :: .func (.func q87) [.ptr 0 0] [] :: .slice 4 5 0 l89.length :: []) :: .dead :: .dead :: .dead :: .cells (Z2 (cI .u8) l88) :: .cells (Z2 Q8.cells l89) :: [] : List AObj)) (fun n1 ⟨c81, c82, c83, c84, c85, c86, q87, l88, l89⟩ => Za N n1 c81 c82 c83 c84 c85 c86 q87 l88 l89) (x.l.MaxPacket, x.l.MaxDepth, x.from', x.at', x.need, x.e, x.next, (x.kept ++ (chunk.map fun b => (b.toNat : Int))), x.out) h (rho [0, 1, 2, 3, 3, 2]) ⟨(rE rfl <| rX <| rX <| rX <| rX <| rX <| rX <| rX <| rX <| rV <| rN), (hC rfl (rE rfl <| rE rfl <| rL (by first | (simp; done) | (simp [Qp]; done)) rfl <| rE rfl <| rE rfl <| rE rfl <| rE rfl <| rE rfl <| rE rfl <| rN) <| hD <| hD <| hD <| hO rfl <| hO rfl <| hN), rfl, rfl, (roE rfl <| roE rfl <| roE rfl <| roE rfl <| roE (Q2 _ _ _) <| roE (Q2 _ _ _) <| roN)⟩ fun n1 ⟨c81, c82, c83, c84, c85, c86, q87, l88, l89⟩ h => ?_
   simp only [Za] at h
   rw [cX] at h
   refine fnU h (fun e h => ?_) fun h => ?_
   ·subst e
    refine cG h X3 fun v91 h => ?_
    refine ⟨rho [0, 4, 5], (.cells (iI v91.2.l.MaxPacket :: iI v91.2.l.MaxDepth :: .slice 1 6 0 v91.2.kept.length :: iI v91.2.from' :: iI v91.2.at' :: iI v91.2.need :: iI v91.2.e :: .func (.func v91.2.next) [.ptr 0 0] [] :: .slice 4 7 0 v91.2.out.length :: []) :: .dead :: .dead :: .dead :: .dead :: .dead :: .cells (Z2 (cI .u8) v91.2.kept) :: .cells (Z2 Q8.cells v91.2.out) :: []), .p (.bool v91.1), ⟨(rE rfl <| rN), (hE rfl <| hO rfl <| hO rfl <| hN), rfl, rfl, (roE rfl <| roE (Q2 _ _ _) <| roE (Q2 _ _ _) <| roN), rfl, (fR 0 rfl rfl rfl rfl <| fD <| fD <| fD <| fD <| fD <| fO 3 rfl rfl rfl <| fO 4 rfl rfl rfl <| fN), rfl⟩, ?_⟩
    apply iU h <;> intro h
    ·show Exists _
     exact ⟨(n1, v91.2.l.MaxPacket, v91.2.l.MaxDepth, v91.2.from', v91.2.at', v91.2.need, v91.2.e, v91.2.next, v91.2.kept, v91.2.out), h, Nat.lt_succ_self _, (rho [0, 1, 2, 3, 6, 7]), ⟨(rE rfl <| rX <| rX <| rX <| rX <| rX <| rX <| rX <| rX <| rV <| rN), (hE rfl <| hD <| hD <| hD <| hO rfl <| hO rfl <| hN), rfl, rfl, (roE rfl <| roE rfl <| roE rfl <| roE rfl <| roE (Q2 _ _ _) <| roE (Q2 _ _ _) <| roN)⟩⟩
    ·apply iU h <;> intro h
     ·refine Q7 ?_
      obtain ⟨hk95, h⟩ := Vq h
      obtain ⟨hk96, h⟩ := Vq h
      refine Wr [0] (r := .slice 1 6 (0 + v91.2.from'.toNat * 1) (v91.2.kept.length - v91.2.from'.toNat)) rfl rfl (fun a ha o ho => ?_) (Ze k38 ?_) ?_
      ·simp only [List.mem_cons, List.mem_nil_iff, or_false] at ha; subst ha; cases ho; rfl
      ·refine Q7 ?_
       refine V5 hk95 ?_
       refine V5 hk96 ?_
       exact ⟨rfl, [], (List.append_nil _).symm⟩
      refine Q76 (l := v91.2.kept) (off := (0 + v91.2.from'.toNat * 1)) (n := (v91.2.kept.length - v91.2.from'.toNat)) (by have e : v91.2.kept.length = (v91.2.kept : List Int).length := (by first | (simp; done) | (simp [Qp]; done)); simp only [Bool.and_eq_true, Nat.ble_eq] at hk96; omega) ?_
      obtain ⟨hk97, h⟩ := Vq h
      refine V5 (Q0y (c := (cI .u8)) (l := (v91.2.kept : List Int)) (fun _ => rfl) (by first | (simp; done) | (simp [Qp]; done)) hk97) ?_
      refine Q4f (c := (cI .u8)) (l := (v91.2.kept : List Int)) (new := (((v91.2.kept : List Int).drop (0 + v91.2.from'.toNat * 1)).take (v91.2.kept.length - v91.2.from'.toNat))) (fun _ => rfl) ?_
      obtain ⟨hk98, h⟩ := Vq h
      refine V5 hk98 ?_
      refine Q7 ?_
      obtain rfl := Qb h
      show Exists _
      exact ⟨(rho [0, 1, 2, 6, 9]), ⟨(rF (Frz.tuple' (.cons (frz_own (c := Q8.cells) (l := (v91.2.out : List Q8)) (fun _ => rfl) rfl rfl (by first | (simp; done) | (simp [Qp]; done))) p1)) <| rN), (hC rfl (rE rfl <| rE rfl <| rL (List.length_take_of_le (l := ((((((v91.2.kept : List Int).drop (0 + v91.2.from'.toNat * 1)).take (v91.2.kept.length - v91.2.from'.toNat)).take v91.2.kept.length) ++ (v91.2.kept : List Int).drop ((((v91.2.kept : List Int).drop (0 + v91.2.from'.toNat * 1)).take (v91.2.kept.length - v91.2.from'.toNat)).take v91.2.kept.length).length) : List Int)) (by have e : v91.2.kept.length = ((((((v91.2.kept : List Int).drop (0 + v91.2.from'.toNat * 1)).take (v91.2.kept.length - v91.2.from'.toNat)).take v91.2.kept.length) ++ (v91.2.kept : List Int).drop ((((v91.2.kept : List Int).drop (0 + v91.2.from'.toNat * 1)).take (v91.2.kept.length - v91.2.from'.toNat)).take v91.2.kept.length).length) : List Int).length := (by simp <;> omega); simp only [Bool.and_eq_true, Nat.ble_eq] at hk98; omega)).symm rfl <| rE rfl <| rE rfl <| rE rfl <| rE rfl <| rE rfl <| rS <| rN) <| hD <| hD <| Qez (((((v91.2.kept : List Int).drop (0 + v91.2.from'.toNat * 1)).take (v91.2.kept.length - v91.2.from'.toNat)).take v91.2.kept.length).length) rfl <| hV lb <| hN), rfl, rfl, (roE rfl <| roE rfl <| roE rfl <| roE (Q2 _ _ _) <| roE (Q2 _ _ _) <| roN)⟩⟩
     ·refine Q7 ?_
      obtain rfl := Qb h
      show Exists _
      exact ⟨(rho [0, 1, 2, 6, 9]), ⟨(rF (Frz.tuple' (.cons (frz_own (c := Q8.cells) (l := (v91.2.out : List Q8)) (fun _ => rfl) rfl rfl (by first | (simp; done) | (simp [Qp]; done))) p1)) <| rN), (hC rfl (rE rfl <| rE rfl <| rE rfl <| rE rfl <| rE rfl <| rE rfl <| rE rfl <| rE rfl <| rS <| rN) <| hD <| hD <| hO rfl <| hV lb <| hN), rfl, rfl, (roE rfl <| roE rfl <| roE rfl <| roE (Q2 _ _ _) <| roE (Q2 _ _ _) <| roN)⟩⟩
   ·skip
    refine fnU h (fun e h => ?_) fun h => ?_
    ·subst e
     refine cG h X2 fun v100 h => ?_
     refine ⟨rho [0, 4, 5], (.cells (iI v100.2.l.MaxPacket :: iI v100.2.l.MaxDepth :: .slice 1 6 0 v100.2.kept.length :: iI v100.2.from' :: iI v100.2.at' :: iI v100.2.need :: iI v100.2.e :: .func (.func v100.2.next) [.ptr 0 0] [] :: .slice 4 7 0 v100.2.out.length :: []) :: .dead :: .dead :: .dead :: .dead :: .dead :: .cells (Z2 (cI .u8) v100.2.kept) :: .cells (Z2 Q8.cells v100.2.out) :: []), .p (.bool v100.1), ⟨(rE rfl <| rN), (hE rfl <| hO rfl <| hO rfl <| hN), rfl, rfl, (roE rfl <| roE (Q2 _ _ _) <| roE (Q2 _ _ _) <| roN), rfl, (fR 0 rfl rfl rfl rfl <| fD <| fD <| fD <| fD <| fD <| fO 3 rfl rfl rfl <| fO 4 rfl rfl rfl <| fN), rfl⟩, ?_⟩
     apply iU h <;> intro h
     ·show Exists _
      exact ⟨(n1, v100.2.l.MaxPacket, v100.2.l.MaxDepth, v100.2.from', v100.2.at', v100.2.need, v100.2.e, v100.2.next, v100.2.kept, v100.2.out), h, Nat.lt_succ_self _, (rho [0, 1, 2, 3, 6, 7]), ⟨(rE rfl <| rX <| rX <| rX <| rX <| rX <| rX <| rX <| rX <| rV <| rN), (hE rfl <| hD <| hD <| hD <| hO rfl <| hO rfl <| hN), rfl, rfl, (roE rfl <| roE rfl <| roE rfl <| roE rfl <| roE (Q2 _ _ _) <| roE (Q2 _ _ _) <| roN)⟩⟩
     ·apply iU h <;> intro h
      ·refine Q7 ?_
       obtain ⟨hk104, h⟩ := Vq h
       obtain ⟨hk105, h⟩ := Vq h
       refine Wr [0] (r := .slice 1 6 (0 + v100.2.from'.toNat * 1) (v100.2.kept.length - v100.2.from'.toNat)) rfl rfl (fun a ha o ho => ?_) (Ze k38 ?_) ?_
       ·simp only [List.mem_cons, List.mem_nil_iff, or_false] at ha; subst ha; cases ho; rfl
       ·refine Q7 ?_
        refine V5 hk104 ?_
        refine V5 hk105 ?_
        exact ⟨rfl, [], (List.append_nil _).symm⟩
       refine Q76 (l := v100.2.kept) (off := (0 + v100.2.from'.toNat * 1)) (n := (v100.2.kept.length - v100.2.from'.toNat)) (by have e : v100.2.kept.length = (v100.2.kept : List Int).length := (by first | (simp; done) | (simp [Qp]; done)); simp only [Bool.and_eq_true, Nat.ble_eq] at hk105; omega) ?_
       obtain ⟨hk106, h⟩ := Vq h
       refine V5 (Q0y (c := (cI .u8)) (l := (v100.2.kept : List Int)) (fun _ => rfl) (by first | (simp; done) | (simp [Qp]; done)) hk106) ?_
       refine Q4f (c := (cI .u8)) (l := (v100.2.kept : List Int)) (new := (((v100.2.kept : List Int).drop (0 + v100.2.from'.toNat * 1)).take (v100.2.kept.length - v100.2.from'.toNat))) (fun _ => rfl) ?_
       obtain ⟨hk107, h⟩ := Vq h
       refine V5 hk107 ?_
       refine Q7 ?_
       obtain rfl := Qb h
       show Exists _
       exact ⟨(rho [0, 1, 2, 6, 9]), ⟨(rF (Frz.tuple' (.cons (frz_own (c := Q8.cells) (l := (v100.2.out : List Q8)) (fun _ => rfl) rfl rfl (by first | (simp; done) | (simp [Qp]; done))) p1)) <| rN), (hC rfl (rE rfl <| rE rfl <| rL (List.length_take_of_le (l := ((((((v100.2.kept : List Int).drop (0 + v100.2.from'.toNat * 1)).take (v100.2.kept.length - v100.2.from'.toNat)).take v100.2.kept.length) ++ (v100.2.kept : List Int).drop ((((v100.2.kept : List Int).drop (0 + v100.2.from'.toNat * 1)).take (v100.2.kept.length - v100.2.from'.toNat)).take v100.2.kept.length).length) : List Int)) (by have e : v100.2.kept.length = ((((((v100.2.kept : List Int).drop (0 + v100.2.from'.toNat * 1)).take (v100.2.kept.length - v100.2.from'.toNat)).take v100.2.kept.length) ++ (v100.2.kept : List Int).drop ((((v100.2.kept : List Int).drop (0 + v100.2.from'.toNat * 1)).take (v100.2.kept.length - v100.2.from'.toNat)).take v100.2.kept.length).length) : List Int).length := (by simp <;> omega); simp only [Bool.and_eq_true, Nat.ble_eq] at hk107; omega)).symm rfl <| rE rfl <| rE rfl <| rE rfl <| rE rfl <| rE rfl <| rS <| rN) <| hD <| hD <| Qez (((((v100.2.kept : List Int).drop (0 + v100.2.from'.toNat * 1)).take (v100.2.kept.length - v100.2.from'.toNat)).take v100.2.kept.length).length) rfl <| hV lb <| hN), rfl, rfl, (roE rfl <| roE rfl <| roE rfl <| roE (Q2 _ _ _) <| roE (Q2 _ _ _) <| roN)⟩⟩
      ·refine Q7 ?_
       obtain rfl := Qb h
       show Exists _
       exact ⟨(rho [0, 1, 2, 6, 9]), ⟨(rF (Frz.tuple' (.cons (frz_own (c := Q8.cells) (l := (v100.2.out : List Q8)) (fun _ => rfl) rfl rfl (by first | (simp; done) | (simp [Qp]; done))) p1)) <| rN), (hC rfl (rE rfl <| rE rfl <| rE rfl <| rE rfl <| rE rfl <| rE rfl <| rE rfl <| rE rfl <| rS <| rN) <| hD <| hD <| hO rfl <| hV lb <| hN), rfl, rfl, (roE rfl <| roE rfl <| roE rfl <| roE (Q2 _ _ _) <| roE (Q2 _ _ _) <| roN)⟩⟩
    ·skip
     first | (cases h; done) | (simp [Qao] at h; done)
def Zq (_N : Nat) (x : Q4) : Option ((Int) × Q4) :=
 cond (decide (0 ≤ x.from')) (cond (Nat.ble x.from'.toNat x.kept.length && Nat.ble x.kept.length x.kept.length) (some ((((x.kept.length - x.from'.toNat) : Nat) : Int), x)) none) none
theorem X6 {N} {x} {r} (h : Zq N x = some r) : GC Tryd.prog G1 19 (.ptr 0 0 :: []) (.cells (.p (.int .i64 x.l.MaxPacket) :: .p (.int .i64 x.l.MaxDepth) :: .slice 1 1 0 x.kept.length :: .p (.int .i64 x.from') :: .p (.int .i64 x.at') :: .p (.int .i64 x.need) :: .p (.int .i64 x.e) :: .func (.func x.next) [.ptr 0 0] [] :: .slice 4 2 0 x.out.length :: []) :: .cells (Z2 (cI .u8) x.kept) :: .cells (Z2 Q8.cells x.out) :: []) (.p (.int .i64 r.1)) (.cells (.p (.int .i64 r.2.l.MaxPacket) :: .p (.int .i64 r.2.l.MaxDepth) :: .slice 1 3 0 r.2.kept.length :: .p (.int .i64 r.2.from') :: .p (.int .i64 r.2.at') :: .p (.int .i64 r.2.need) :: .p (.int .i64 r.2.e) :: .func (.func r.2.next) [.ptr 0 0] [] :: .slice 4 4 0 r.2.out.length :: []) :: .dead :: .dead :: .cells (Z2 (cI .u8) r.2.kept) :: .cells (Z2 Q8.cells r.2.out) :: []) := by
 refine Vv k19 (Nat.le_of_ble_eq_true rfl) ?_
 unfold Zq at h
 refine Ze k38 ?_
 refine Q7 ?_
 refine kU h fun h => ?_
 refine kU h fun h => ?_
 obtain rfl := Qb h
 show Exists _
 exact ⟨(rho [0, 1, 2, 1, 2]), ⟨(rE rfl <| rN), (hE rfl <| hD <| hD <| hO rfl <| hO rfl <| hN), rfl, rfl, (roE rfl <| roE rfl <| roE rfl <| roE (Q2 _ _ _) <| roE (Q2 _ _ _) <| roN)⟩⟩
def Z6 (_N : Nat) : Option (Zf) :=
 some (⟨4096, 6⟩ : Zf)
theorem Z9 {N} {r} (h : Z6 N = some r) : Yr Tryd.prog G1 21 [] (.agg (Zf.cells r)) := by
 refine Qe k21 ?_
 unfold Z6 at h
 obtain rfl := Qb h; exact q2
def Yv (N : Nat) : Option (Bool) :=
 (Z6 N).bind fun v1 =>
 (Zk N [] v1).bind fun v3 =>
 cond (Qc .eql v3.2 2)
 (cond (Qc .neq v3.2 0)
 (some false)
 (some false))
 ((Qs N (⟨v1, [], 0, 0, 0, 0, 37, []⟩ : Q4) [0, 0, 0, 8]).bind fun v7 =>
 (Qs N v7.2 [2, 0, 0, 1, 0, 0, 0]).bind fun v12 =>
 cond (Qc .eql v7.1.2 0)
 (cond (Qc .eql v12.1.2 0)
 (cond (Qc .eql ((Qp Q8.cells v7.1.1).length : Int) 0)
 (cond (Qc .eql ((Qp Q8.cells v12.1.1).length : Int) 1)
 ((idx v12.1.1 0).bind fun y18 =>
 cond (Qc .eql y18.Channel 1)
 ((Zq N v12.2).bind fun v21 =>
 some (Qc .eql v21.1 3))
 (some false))
 (some false))
 (some false))
 (some false))
 (some false))
theorem Vp {N} {r} (h : Yv N = some r) : Yr Tryd.prog G1 16 [] (.bool r) := by
 refine Qe k16 ?_
 unfold Yv at h
 rw [cX] at h
 refine cP h Z9 p0 fun v1 h => ?_
 refine Ze k17 ?_
 refine cP h Zi (.cons (.p _) (.cons q2 .nil)) fun v3 h => ?_
 apply iU h <;> intro h
 ·apply iU h <;> intro h
  ·cases h; exact (.p _)
  ·cases h; exact (.p _)
 ·refine ifF (cF (by decide)) ?_
  refine cG h Z1 fun v7 h => ?_
  refine ⟨rho [1, 3, 4], (.cells (iI v1.MaxPacket :: iI v1.MaxDepth :: []) :: .cells (iI v7.2.l.MaxPacket :: iI v7.2.l.MaxDepth :: .slice 1 2 0 v7.2.kept.length :: iI v7.2.from' :: iI v7.2.at' :: iI v7.2.need :: iI v7.2.e :: .func (.func v7.2.next) [.ptr 1 0] [] :: .slice 4 3 0 v7.2.out.length :: []) :: .cells (Z2 (cI .u8) v7.2.kept) :: .cells (Z2 Q8.cells v7.2.out) :: []), .p (.tuple [.slice 4 (Qp Q8.cells v7.1.1), .int .i64 v7.1.2]), ⟨(rE rfl <| rE rfl <| rN), (hC rfl (rE rfl <| rE rfl <| rS <| rE rfl <| rE rfl <| rE rfl <| rE rfl <| rE rfl <| rS <| rN) <| hV lb <| hV lb <| hN), rfl, rfl, (roE rfl <| roE (Q2 _ _ _) <| roE (Q2 _ _ _) <| roN), rfl, (fK rfl rfl <| fR 0 rfl rfl rfl rfl <| fO 3 rfl rfl rfl <| fO 4 rfl rfl rfl <| fN), rfl⟩, ?_⟩
  refine Qbr 4 0 rfl rfl rfl rfl rfl ?_
  refine cG h Z1 fun v12 h => ?_
  refine ⟨rho [1, 2, 3], (.cells (iI v1.MaxPacket :: iI v1.MaxDepth :: []) :: .cells (iI v12.2.l.MaxPacket :: iI v12.2.l.MaxDepth :: .slice 1 4 0 v12.2.kept.length :: iI v12.2.from' :: iI v12.2.at' :: iI v12.2.need :: iI v12.2.e :: .func (.func v12.2.next) [.ptr 1 0] [] :: .slice 4 5 0 v12.2.out.length :: []) :: .dead :: .dead :: .cells (Z2 (cI .u8) v12.2.kept) :: .cells (Z2 Q8.cells v12.2.out) :: []), .p (.tuple [.slice 4 (Qp Q8.cells v12.1.1), .int .i64 v12.1.2]), ⟨(rE rfl <| rE rfl <| rN), (hE rfl <| hO rfl <| hO rfl <| hN), rfl, rfl, (roE rfl <| roE (Q2 _ _ _) <| roE (Q2 _ _ _) <| roN), rfl, (fK rfl rfl <| fR 0 rfl rfl rfl rfl <| fD <| fD <| fO 3 rfl rfl rfl <| fO 4 rfl rfl rfl <| fN), rfl⟩, ?_⟩
  apply iU h <;> intro h
  ·apply iU h <;> intro h
   ·apply iU h <;> intro h
    ·apply iU h <;> intro h
     ·refine xR h fun y18 h => ?_
      apply iU h <;> intro h
      ·refine cG h X6 fun v21 h => ?_
       refine ⟨rho [1, 4, 5], (.cells (iI v1.MaxPacket :: iI v1.MaxDepth :: []) :: .cells (iI v21.2.l.MaxPacket :: iI v21.2.l.MaxDepth :: .slice 1 6 0 v21.2.kept.length :: iI v21.2.from' :: iI v21.2.at' :: iI v21.2.need :: iI v21.2.e :: .func (.func v21.2.next) [.ptr 1 0] [] :: .slice 4 7 0 v21.2.out.length :: []) :: .dead :: .dead :: .dead :: .dead :: .cells (Z2 (cI .u8) v21.2.kept) :: .cells (Z2 Q8.cells v21.2.out) :: []), iI v21.1, ⟨(rE rfl <| rN), (hE rfl <| hO rfl <| hO rfl <| hN), rfl, rfl, (roE rfl <| roE (Q2 _ _ _) <| roE (Q2 _ _ _) <| roN), rfl, (fK rfl rfl <| fR 0 rfl rfl rfl rfl <| fD <| fD <| fD <| fD <| fO 3 rfl rfl rfl <| fO 4 rfl rfl rfl <| fN), rfl⟩, ?_⟩
       cases h; exact (.p _)
      ·cases h; exact (.p _)
     ·cases h; exact (.p _)
    ·cases h; exact (.p _)
   ·cases h; exact (.p _)
  ·cases h; exact (.p _)
def Y5 (_N : Nat) (x : Q4) : Option ((Int) × Q4) :=
 some (x.at', x)
theorem Xi {N} {x} {r} (h : Y5 N x = some r) : GC Tryd.prog G1 20 (.ptr 0 0 :: []) (.cells (.p (.int .i64 x.l.MaxPacket) :: .p (.int .i64 x.l.MaxDepth) :: .slice 1 1 0 x.kept.length :: .p (.int .i64 x.from') :: .p (.int .i64 x.at') :: .p (.int .i64 x.need) :: .p (.int .i64 x.e) :: .func (.func x.next) [.ptr 0 0] [] :: .slice 4 2 0 x.out.length :: []) :: .cells (Z2 (cI .u8) x.kept) :: .cells (Z2 Q8.cells x.out) :: []) (.p (.int .i64 r.1)) (.cells (.p (.int .i64 r.2.l.MaxPacket) :: .p (.int .i64 r.2.l.MaxDepth) :: .slice 1 3 0 r.2.kept.length :: .p (.int .i64 r.2.from') :: .p (.int .i64 r.2.at') :: .p (.int .i64 r.2.need) :: .p (.int .i64 r.2.e) :: .func (.func r.2.next) [.ptr 0 0] [] :: .slice 4 4 0 r.2.out.length :: []) :: .dead :: .dead :: .cells (Z2 (cI .u8) r.2.kept) :: .cells (Z2 Q8.cells r.2.out) :: []) := by
 refine Vv k20 (Nat.le_of_ble_eq_true rfl) ?_
 unfold Y5 at h
 obtain rfl := Qb h
 show Exists _
 exact ⟨(rho [0, 1, 2, 1, 2]), ⟨(rE rfl <| rN), (hE rfl <| hD <| hD <| hO rfl <| hO rfl <| hN), rfl, rfl, (roE rfl <| roE rfl <| roE rfl <| roE (Q2 _ _ _) <| roE (Q2 _ _ _) <| roN)⟩⟩
def Yl (_N : Nat) (x : Q4) : Option ((Int) × Q4) :=
 some (x.e, x)
theorem Vc {N} {x} {r} (h : Yl N x = some r) : GC Tryd.prog G1 22 (.ptr 0 0 :: []) (.cells (.p (.int .i64 x.l.MaxPacket) :: .p (.int .i64 x.l.MaxDepth) :: .slice 1 1 0 x.kept.length :: .p (.int .i64 x.from') :: .p (.int .i64 x.at') :: .p (.int .i64 x.need) :: .p (.int .i64 x.e) :: .func (.func x.next) [.ptr 0 0] [] :: .slice 4 2 0 x.out.length :: []) :: .cells (Z2 (cI .u8) x.kept) :: .cells (Z2 Q8.cells x.out) :: []) (.p (.int .i64 r.1)) (.cells (.p (.int .i64 r.2.l.MaxPacket) :: .p (.int .i64 r.2.l.MaxDepth) :: .slice 1 3 0 r.2.kept.length :: .p (.int .i64 r.2.from') :: .p (.int .i64 r.2.at') :: .p (.int .i64 r.2.need) :: .p (.int .i64 r.2.e) :: .func (.func r.2.next) [.ptr 0 0] [] :: .slice 4 4 0 r.2.out.length :: []) :: .dead :: .dead :: .cells (Z2 (cI .u8) r.2.kept) :: .cells (Z2 Q8.cells r.2.out) :: []) := by
 refine Vv k22 (Nat.le_of_ble_eq_true rfl) ?_
 unfold Yl at h
 obtain rfl := Qb h
 show Exists _
 exact ⟨(rho [0, 1, 2, 1, 2]), ⟨(rE rfl <| rN), (hE rfl <| hD <| hD <| hO rfl <| hO rfl <| hN), rfl, rfl, (roE rfl <| roE rfl <| roE rfl <| roE (Q2 _ _ _) <| roE (Q2 _ _ _) <| roN)⟩⟩
def Z5 (N : Nat) (l : Zf) (s_1 : List UInt8) : Option ((List Q8) × Int × Int) :=
 (Zk N [] l).bind fun v1 =>
 cond (Qc .eql v1.2 2)
 (cond (Qc .neq v1.2 0)
 (some ([], 0, v1.2))
 (some ([], 0, 1)))
 ((Qs N (⟨l, [], 0, 0, 0, 0, 37, []⟩ : Q4) s_1).bind fun v5 =>
 (Y5 N v5.2).bind fun v7 =>
 some (v5.1.1, v7.1, v5.1.2))
theorem Z7 {N} {l} {s_1} {r} (h : Z5 N l s_1 = some r) : Yr Tryd.prog G1 23 [.agg (Zf.cells l), .str s_1] (.tuple [.slice 4 (Qp Q8.cells r.1), .int .i64 r.2.1, .int .i64 r.2.2]) := by
 refine Qe k23 ?_
 unfold Z5 at h
 rw [cX] at h
 refine Ze k17 ?_
 refine cP h Zi (.cons (.p _) (.cons q2 .nil)) fun v1 h => ?_
 apply iU h <;> intro h
 ·apply iU h <;> intro h
  ·obtain rfl := Qb h; exact (Frz.tuple' (.cons (.nil _) p2))
  ·refine Ze k18 ?_
   refine Ze k20 ?_
   obtain rfl := Qb h; exact (Frz.tuple' (.cons (.nil _) p2))
 ·refine ifF (cF (by decide)) ?_
  refine cG h Z1 fun v5 h => ?_
  refine ⟨rho [2, 4, 5], (.cells (iI l.MaxPacket :: iI l.MaxDepth :: []) :: .cells (iI l.MaxPacket :: iI l.MaxDepth :: []) :: .cells (iI v5.2.l.MaxPacket :: iI v5.2.l.MaxDepth :: .slice 1 3 0 v5.2.kept.length :: iI v5.2.from' :: iI v5.2.at' :: iI v5.2.need :: iI v5.2.e :: .func (.func v5.2.next) [.ptr 2 0] [] :: .slice 4 4 0 v5.2.out.length :: []) :: .cells (Z2 (cI .u8) v5.2.kept) :: .cells (Z2 Q8.cells v5.2.out) :: []), .p (.tuple [.slice 4 (Qp Q8.cells v5.1.1), .int .i64 v5.1.2]), ⟨(rE rfl <| rE rfl <| rN), (hC rfl (rE rfl <| rE rfl <| rS <| rE rfl <| rE rfl <| rE rfl <| rE rfl <| rE rfl <| rS <| rN) <| hV lb <| hV lb <| hN), rfl, rfl, (roE rfl <| roE (Q2 _ _ _) <| roE (Q2 _ _ _) <| roN), rfl, (fK rfl rfl <| fK rfl rfl <| fR 0 rfl rfl rfl rfl <| fO 3 rfl rfl rfl <| fO 4 rfl rfl rfl <| fN), rfl⟩, ?_⟩
  refine cG h Xi fun v7 h => ?_
  refine ⟨rho [2, 3, 4], (.cells (iI l.MaxPacket :: iI l.MaxDepth :: []) :: .cells (iI l.MaxPacket :: iI l.MaxDepth :: []) :: .cells (iI v7.2.l.MaxPacket :: iI v7.2.l.MaxDepth :: .slice 1 5 0 v7.2.kept.length :: iI v7.2.from' :: iI v7.2.at' :: iI v7.2.need :: iI v7.2.e :: .func (.func v7.2.next) [.ptr 2 0] [] :: .slice 4 6 0 v7.2.out.length :: []) :: .dead :: .dead :: .cells (Z2 (cI .u8) v7.2.kept) :: .cells (Z2 Q8.cells v7.2.out) :: []), iI v7.1, ⟨(rE rfl <| rN), (hE rfl <| hO rfl <| hO rfl <| hN), rfl, rfl, (roE rfl <| roE (Q2 _ _ _) <| roE (Q2 _ _ _) <| roN), rfl, (fK rfl rfl <| fK rfl rfl <| fR 0 rfl rfl rfl rfl <| fD <| fD <| fO 3 rfl rfl rfl <| fO 4 rfl rfl rfl <| fN), rfl⟩, ?_⟩
  obtain rfl := Qb h; exact u3
def Zo (N : Nat) : Option (Bool) :=
 (Yv N).bind fun v1 =>
 cond (!v1)
 (some false)
 ((Z6 N).bind fun v4 =>
 (Zk N [] v4).bind fun v6 =>
 cond (Qc .eql v6.2 2)
 ((Zk N [] (⟨1048577, 0⟩ : Zf)).bind fun v9 =>
 cond (Qc .eql v9.2 2)
 ((Z6 N).bind fun v12 =>
 (Z5 N v12 [0, 0, 0, 8, 2, 0, 0, 1, 0, 0, 0, 8, 2, 0, 0, 1, 0, 0, 0, 7, 0, 0, 0, 0]).bind fun v14 =>
 (Z5 N (⟨0, 0⟩ : Zf) []).bind fun v16 =>
 some false)
 ((Z6 N).bind fun v18 =>
 (Z5 N v18 [0, 0, 0, 8, 2, 0, 0, 1, 0, 0, 0, 8, 2, 0, 0, 1, 0, 0, 0, 7, 0, 0, 0, 0]).bind fun v20 =>
 (Z5 N (⟨0, 0⟩ : Zf) []).bind fun v22 =>
 some false))
 ((Qs N (⟨v4, [], 0, 0, 0, 0, 37, []⟩ : Q4) [0, 0, 0, 8, 2, 0, 0, 1, 0, 0, 16, 1, 2, 0, 0]).bind fun v24 =>
 (Qs N v24.2 [0]).bind fun v26 =>
 (Y5 N v26.2).bind fun v28 =>
 (Zq N v28.2).bind fun v30 =>
 (Yl N v30.2).bind fun v32 =>
 (Qs N v32.2 [0, 0, 0, 8, 2, 0, 0, 1]).bind fun v34 =>
 (Zk N [] (⟨1048577, 0⟩ : Zf)).bind fun v36 =>
 cond (Qc .eql v36.2 2)
 ((Z6 N).bind fun v39 =>
 (Z5 N v39 [0, 0, 0, 8, 2, 0, 0, 1, 0, 0, 0, 8, 2, 0, 0, 1, 0, 0, 0, 7, 0, 0, 0, 0]).bind fun v41 =>
 (Z5 N (⟨0, 0⟩ : Zf) []).bind fun v43 =>
 cond (Qc .eql ((Qp Q8.cells v24.1.1).length : Int) 1)
 (cond (Qc .eql v24.1.2 0)
 (cond (Qc .eql ((Qp Q8.cells v26.1.1).length : Int) 0)
 (cond (Qc .eql v26.1.2 4)
 (cond (Qc .eql v28.1 8)
 (cond (Qc .eql v30.1 0)
 (cond (Qc .eql v32.1 4)
 (cond (Qc .eql ((Qp Q8.cells v34.1.1).length : Int) 0)
 (cond (Qc .eql v34.1.2 4)
 (cond (Qc .eql ((Qp Q8.cells v41.1).length : Int) 2)
 (cond (Qc .eql v41.2.1 16)
 (cond (Qc .eql v41.2.2 5)
 (cond (Qc .eql v43.2.2 2)
 (some (Qc .eql 0 0))
 (some false))
 (some false))
 (some false))
 (some false))
 (some false))
 (some false))
 (some false))
 (some false))
 (some false))
 (some false))
 (some false))
 (some false))
 (some false))
 ((Z6 N).bind fun v58 =>
 (Z5 N v58 [0, 0, 0, 8, 2, 0, 0, 1, 0, 0, 0, 8, 2, 0, 0, 1, 0, 0, 0, 7, 0, 0, 0, 0]).bind fun v60 =>
 (Z5 N (⟨0, 0⟩ : Zf) []).bind fun v62 =>
 cond (Qc .eql ((Qp Q8.cells v24.1.1).length : Int) 1)
 (cond (Qc .eql v24.1.2 0)
 (cond (Qc .eql ((Qp Q8.cells v26.1.1).length : Int) 0)
 (cond (Qc .eql v26.1.2 4)
 (cond (Qc .eql v28.1 8)
 (cond (Qc .eql v30.1 0)
 (cond (Qc .eql v32.1 4)
 (cond (Qc .eql ((Qp Q8.cells v34.1.1).length : Int) 0)
 (cond (Qc .eql v34.1.2 4)
 (some false)
 (some false))
 (some false))
 (some false))
 (some false))
 (some false))
 (some false))
 (some false))
 (some false))
 (some false))))
theorem Xm {N} {r} (h : Zo N = some r) : Yr Tryd.prog G1 5 [] (.bool r) := by
 refine Qe k5 ?_
 unfold Zo at h
 rw [cX] at h
 refine cP h Vp p0 fun v1 h => ?_
 apply iU h <;> intro h
 ·cases h; exact (.p _)
 ·refine cP h Z9 p0 fun v4 h => ?_
  refine Ze k17 ?_
  refine cP h Zi (.cons (.p _) (.cons q2 .nil)) fun v6 h => ?_
  apply iU h <;> intro h
  ·refine Ze k18 ?_
   refine Ze k18 ?_
   refine Ze k20 ?_
   refine Ze k19 ?_
   refine Ze k22 ?_
   refine Ze k18 ?_
   refine Ze k17 ?_
   refine cP h Zi (.cons (.p _) (.cons q2 .nil)) fun v9 h => ?_
   apply iU h <;> intro h
   ·refine cP h Z9 p0 fun v12 h => ?_
    refine cP h Z7 p2 fun v14 h => ?_
    refine cP h Z7 (.cons q2 p1) fun v16 h => ?_
    refine Ze k18 ?_
    refine ifF (cF (by decide)) ?_
    cases h; exact (.p _)
   ·refine cP h Z9 p0 fun v18 h => ?_
    refine cP h Z7 p2 fun v20 h => ?_
    refine cP h Z7 (.cons q2 p1) fun v22 h => ?_
    refine Ze k18 ?_
    refine ifF (cF (by decide)) ?_
    cases h; exact (.p _)
  ·refine cG h Z1 fun v24 h => ?_
   refine ⟨rho [1, 3, 4], (.cells (iI v4.MaxPacket :: iI v4.MaxDepth :: []) :: .cells (iI v24.2.l.MaxPacket :: iI v24.2.l.MaxDepth :: .slice 1 2 0 v24.2.kept.length :: iI v24.2.from' :: iI v24.2.at' :: iI v24.2.need :: iI v24.2.e :: .func (.func v24.2.next) [.ptr 1 0] [] :: .slice 4 3 0 v24.2.out.length :: []) :: .cells (Z2 (cI .u8) v24.2.kept) :: .cells (Z2 Q8.cells v24.2.out) :: []), .p (.tuple [.slice 4 (Qp Q8.cells v24.1.1), .int .i64 v24.1.2]), ⟨(rE rfl <| rE rfl <| rN), (hC rfl (rE rfl <| rE rfl <| rS <| rE rfl <| rE rfl <| rE rfl <| rE rfl <| rE rfl <| rS <| rN) <| hV lb <| hV lb <| hN), rfl, rfl, (roE rfl <| roE (Q2 _ _ _) <| roE (Q2 _ _ _) <| roN), rfl, (fK rfl rfl <| fR 0 rfl rfl rfl rfl <| fO 3 rfl rfl rfl <| fO 4 rfl rfl rfl <| fN), rfl⟩, ?_⟩
   refine cG h Z1 fun v26 h => ?_
   refine ⟨rho [1, 2, 3], (.cells (iI v4.MaxPacket :: iI v4.MaxDepth :: []) :: .cells (iI v26.2.l.MaxPacket :: iI v26.2.l.MaxDepth :: .slice 1 4 0 v26.2.kept.length :: iI v26.2.from' :: iI v26.2.at' :: iI v26.2.need :: iI v26.2.e :: .func (.func v26.2.next) [.ptr 1 0] [] :: .slice 4 5 0 v26.2.out.length :: []) :: .dead :: .dead :: .cells (Z2 (cI .u8) v26.2.kept) :: .cells (Z2 Q8.cells v26.2.out) :: []), .p (.tuple [.slice 4 (Qp Q8.cells v26.1.1), .int .i64 v26.1.2]), ⟨(rE rfl <| rE rfl <| rN), (hE rfl <| hO rfl <| hO rfl <| hN), rfl, rfl, (roE rfl <| roE (Q2 _ _ _) <| roE (Q2 _ _ _) <| roN), rfl, (fK rfl rfl <| fR 0 rfl rfl rfl rfl <| fD <| fD <| fO 3 rfl rfl rfl <| fO 4 rfl rfl rfl <| fN), rfl⟩, ?_⟩
   refine cG h Xi fun v28 h => ?_
   refine ⟨rho [1, 4, 5], (.cells (iI v4.MaxPacket :: iI v4.MaxDepth :: []) :: .cells (iI v28.2.l.MaxPacket :: iI v28.2.l.MaxDepth :: .slice 1 6 0 v28.2.kept.length :: iI v28.2.from' :: iI v28.2.at' :: iI v28.2.need :: iI v28.2.e :: .func (.func v28.2.next) [.ptr 1 0] [] :: .slice 4 7 0 v28.2.out.length :: []) :: .dead :: .dead :: .dead :: .dead :: .cells (Z2 (cI .u8) v28.2.kept) :: .cells (Z2 Q8.cells v28.2.out) :: []), iI v28.1, ⟨(rE rfl <| rN), (hE rfl <| hO rfl <| hO rfl <| hN), rfl, rfl, (roE rfl <| roE (Q2 _ _ _) <| roE (Q2 _ _ _) <| roN), rfl, (fK rfl rfl <| fR 0 rfl rfl rfl rfl <| fD <| fD <| fD <| fD <| fO 3 rfl rfl rfl <| fO 4 rfl rfl rfl <| fN), rfl⟩, ?_⟩
   refine cG h X6 fun v30 h => ?_
   refine ⟨rho [1, 6, 7], (.cells (iI v4.MaxPacket :: iI v4.MaxDepth :: []) :: .cells (iI v30.2.l.MaxPacket :: iI v30.2.l.MaxDepth :: .slice 1 8 0 v30.2.kept.length :: iI v30.2.from' :: iI v30.2.at' :: iI v30.2.need :: iI v30.2.e :: .func (.func v30.2.next) [.ptr 1 0] [] :: .slice 4 9 0 v30.2.out.length :: []) :: .dead :: .dead :: .dead :: .dead :: .dead :: .dead :: .cells (Z2 (cI .u8) v30.2.kept) :: .cells (Z2 Q8.cells v30.2.out) :: []), iI v30.1, ⟨(rE rfl <| rN), (hE rfl <| hO rfl <| hO rfl <| hN), rfl, rfl, (roE rfl <| roE (Q2 _ _ _) <| roE (Q2 _ _ _) <| roN), rfl, (fK rfl rfl <| fR 0 rfl rfl rfl rfl <| fD <| fD <| fD <| fD <| fD <| fD <| fO 3 rfl rfl rfl <| fO 4 rfl rfl rfl <| fN), rfl⟩, ?_⟩
   refine cG h Vc fun v32 h => ?_
   refine ⟨rho [1, 8, 9], (.cells (iI v4.MaxPacket :: iI v4.MaxDepth :: []) :: .cells (iI v32.2.l.MaxPacket :: iI v32.2.l.MaxDepth :: .slice 1 10 0 v32.2.kept.length :: iI v32.2.from' :: iI v32.2.at' :: iI v32.2.need :: iI v32.2.e :: .func (.func v32.2.next) [.ptr 1 0] [] :: .slice 4 11 0 v32.2.out.length :: []) :: .dead :: .dead :: .dead :: .dead :: .dead :: .dead :: .dead :: .dead :: .cells (Z2 (cI .u8) v32.2.kept) :: .cells (Z2 Q8.cells v32.2.out) :: []), iI v32.1, ⟨(rE rfl <| rN), (hE rfl <| hO rfl <| hO rfl <| hN), rfl, rfl, (roE rfl <| roE (Q2 _ _ _) <| roE (Q2 _ _ _) <| roN), rfl, (fK rfl rfl <| fR 0 rfl rfl rfl rfl <| fD <| fD <| fD <| fD <| fD <| fD <| fD <| fD <| fO 3 rfl rfl rfl <| fO 4 rfl rfl rfl <| fN), rfl⟩, ?_⟩
   refine cG h Z1 fun v34 h => ?_
   refine ⟨rho [1, 10, 11], (.cells (iI v4.MaxPacket :: iI v4.MaxDepth :: []) :: .cells (iI v34.2.l.MaxPacket :: iI v34.2.l.MaxDepth :: .slice 1 12 0 v34.2.kept.length :: iI v34.2.from' :: iI v34.2.at' :: iI v34.2.need :: iI v34.2.e :: .func (.func v34.2.next) [.ptr 1 0] [] :: .slice 4 13 0 v34.2.out.length :: []) :: .dead :: .dead :: .dead :: .dead :: .dead :: .dead :: .dead :: .dead :: .dead :: .dead :: .cells (Z2 (cI .u8) v34.2.kept) :: .cells (Z2 Q8.cells v34.2.out) :: []), .p (.tuple [.slice 4 (Qp Q8.cells v34.1.1), .int .i64 v34.1.2]), ⟨(rE rfl <| rE rfl <| rN), (hE rfl <| hO rfl <| hO rfl <| hN), rfl, rfl, (roE rfl <| roE (Q2 _ _ _) <| roE (Q2 _ _ _) <| roN), rfl, (fK rfl rfl <| fR 0 rfl rfl rfl rfl <| fD <| fD <| fD <| fD <| fD <| fD <| fD <| fD <| fD <| fD <| fO 3 rfl rfl rfl <| fO 4 rfl rfl rfl <| fN), rfl⟩, ?_⟩
   refine Ze k17 ?_
   refine cP h Zi (.cons (.p _) (.cons q2 .nil)) fun v36 h => ?_
   refine ifO h (fun hc38 h => ?_) (fun hc38 h => ?_)
   ·refine cP h Z9 p0 fun v39 h => ?_
    refine cP h Z7 p2 fun v41 h => ?_
    refine cP h Z7 (.cons q2 p1) fun v43 h => ?_
    refine Ze k18 ?_
    apply iU h <;> intro h
    ·apply iU h <;> intro h
     ·apply iU h <;> intro h
      ·apply iU h <;> intro h
       ·apply iU h <;> intro h
        ·apply iU h <;> intro h
         ·apply iU h <;> intro h
          ·apply iU h <;> intro h
           ·apply iU h <;> intro h
            ·refine ifT hc38 ?_
             apply iU h <;> intro h
             ·apply iU h <;> intro h
              ·apply iU h <;> intro h
               ·apply iU h <;> intro h
                ·refine ifT (cF (by decide)) ?_
                 refine Ze k22 ?_
                 refine ifT (cF (by decide)) ?_
                 refine Ze k20 ?_
                 refine ifT (cF (by decide)) ?_
                 refine Ze k19 ?_
                 cases h; exact (.p _)
                ·cases h; exact (.p _)
               ·cases h; exact (.p _)
              ·cases h; exact (.p _)
             ·cases h; exact (.p _)
            ·cases h; exact (.p _)
           ·cases h; exact (.p _)
          ·cases h; exact (.p _)
         ·cases h; exact (.p _)
        ·cases h; exact (.p _)
       ·cases h; exact (.p _)
      ·cases h; exact (.p _)
     ·cases h; exact (.p _)
    ·cases h; exact (.p _)
   ·refine cP h Z9 p0 fun v58 h => ?_
    refine cP h Z7 p2 fun v60 h => ?_
    refine cP h Z7 (.cons q2 p1) fun v62 h => ?_
    refine Ze k18 ?_
    apply iU h <;> intro h
    ·apply iU h <;> intro h
     ·apply iU h <;> intro h
      ·apply iU h <;> intro h
       ·apply iU h <;> intro h
        ·apply iU h <;> intro h
         ·apply iU h <;> intro h
          ·apply iU h <;> intro h
           ·apply iU h <;> intro h
            ·refine ifF (cF (by decide)) ?_
             cases h; exact (.p _)
            ·cases h; exact (.p _)
           ·cases h; exact (.p _)
          ·cases h; exact (.p _)
         ·cases h; exact (.p _)
        ·cases h; exact (.p _)
       ·cases h; exact (.p _)
      ·cases h; exact (.p _)
     ·cases h; exact (.p _)
    ·cases h; exact (.p _)
end
end
end Go.Av
