/- The law. Part of a proof of a given statement: for every input the law returns true and the arguments read as before; no condition beyond the given row. -/
import Derived.Test.YtegedmcbfmfjeaaDoorLiftF2
namespace Go.Av
noncomputable section
open Go.Proofs
set_option maxRecDepth 100000
set_option maxHeartbeats 4000000
attribute [local irreducible] X4 Y4 Q2l Q2j Qcm Qff Q50
section
def Yg (N : Nat) (s_0 : List UInt8) (l : Qc) (v1 : Int × Int) (b5 : UInt8) (b7 : UInt8) (v10 : Int) : Nat → (List UInt8) → (List Q0) → Option (Q6 × Int × Int)
 | 0, _, _ => none
 | n + 1, left34, l35 =>
  cond (Q7c .neq left34 [])
  (cond (Qe .eql (l35.length : Int) 1000)
  (some ((⟨0, 0, [], []⟩ : Q6), 0, 4))
  ((Zq N left34 l.MaxDepth).bind fun v38 =>
  cond (Qe .eql v38.2.2 3)
  (some ((⟨0, 0, [], []⟩ : Q6), 0, 5))
  (cond (Qe .neq v38.2.2 0)
  (some ((⟨0, 0, [], []⟩ : Q6), 0, v38.2.2))
  (cond (Nat.ble ((l35.length + 1 + 4096) * 56) 17592186044416) (cond (decide (0 ≤ v38.2.1)) (cond (Nat.ble v38.2.1.toNat left34.length && Nat.ble left34.length left34.length) (Yg N s_0 l v1 b5 b7 v10 n ((left34.take left34.length).drop v38.2.1.toNat) (l35 ++ [v38.1])) none) none) none))))
  (some ((⟨(IntKind.wrap .i64 (b7.toNat : Int)), (IntKind.wrap .i64 v10), ((s_0.take ((IntKind.wrap .i64 (4 * (IntKind.wrap .i64 (b5.toNat : Int)))).toNat)).drop 8), l35⟩ : Q6), v1.1, 0))
def Xs (N : Nat) (s_0 : List UInt8) (l : Qc) : Option (Q6 × Int × Int) :=
 (Y0 N s_0 l).bind fun v1 =>
 cond (Qe .neq v1.2 0)
 (some ((⟨0, 0, [], []⟩ : Q6), 0, v1.2))
 (cond (Qe .lss (s_0.length : Int) v1.1)
 (some ((⟨0, 0, [], []⟩ : Q6), 0, 3))
 ((idx s_0 4).bind fun b5 =>
 (idx s_0 5).bind fun b7 =>
 cond (Nat.ble 6 8 && Nat.ble 8 s_0.length) ((Wg N ((s_0.take 8).drop 6)).bind fun v10 =>
 cond (decide (0 ≤ (IntKind.wrap .i64 (4 * (IntKind.wrap .i64 (b5.toNat : Int)))))) (cond (Nat.ble 8 ((IntKind.wrap .i64 (4 * (IntKind.wrap .i64 (b5.toNat : Int)))).toNat) && Nat.ble ((IntKind.wrap .i64 (4 * (IntKind.wrap .i64 (b5.toNat : Int)))).toNat) s_0.length) (cond (decide (0 ≤ v1.1)) (cond (Nat.ble (IntKind.wrap .i64 (4 * (IntKind.wrap .i64 (b5.toNat : Int)))).toNat v1.1.toNat && Nat.ble v1.1.toNat s_0.length) (Yg N s_0 l v1 b5 b7 v10 N ((s_0.take v1.1.toNat).drop ((IntKind.wrap .i64 (4 * (IntKind.wrap .i64 (b5.toNat : Int)))).toNat)) []) none) none) none) none) none))
theorem Q1b {N} {s_0} {l} {r} (h : Xs N s_0 l = some r) : Xw Tryd.prog G1 77 [.str s_0, .agg (Qc.cells l)] (.tuple [.agg (Q6.cells r.1), .int .i64 r.2.1, .int .i64 r.2.2]) := by
 refine Qq k77 ?_
 unfold Xs at h
 rw [cX] at h
 refine cP h Xm (.cons (.p _) (.cons q2 .nil)) fun v1 h => ?_
 apply iU h <;> intro h
 ·obtain rfl := Qh h; exact (Frz.tuple' (.cons q4n p2))
 ·apply iU h <;> intro h
  ·obtain rfl := Qh h; exact (Frz.tuple' (.cons q4n p2))
  ·refine xB h fun b5 h => ?_
   refine Q9 ?_
   refine xB h fun b7 h => ?_
   refine kU h fun h => ?_
   refine cD h Ud p1 fun v10 h => ?_
   obtain ⟨hk12, h⟩ := Ur h
   refine U2 hk12 ?_
   refine kU h fun h => ?_
   refine U2 hk12 ?_
   refine kU h fun h => ?_
   refine kU h fun h => ?_
   refine lpC (τ := (List UInt8) × (List Q0)) (fun ⟨left34, _⟩ => (a2 (.any :: .ptr 0 0 :: .ptr 1 0 :: iI v1.1 :: .any :: .any :: iS left34 :: a16 (a16 (a16 (a16 (a4 (.any :: [])))))) : List AV)) (fun ⟨_, l35⟩ => (.cells (iI l.MaxPacket :: iI l.MaxDepth :: []) :: .cells (iI (IntKind.wrap .i64 (b7.toNat : Int)) :: iI (IntKind.wrap .i64 v10) :: .p (.str ((s_0.take ((IntKind.wrap .i64 (4 * (IntKind.wrap .i64 (b5.toNat : Int)))).toNat)).drop 8)) :: .slice 4 2 0 l35.length :: []) :: .cells (Zl Q0.cells l35) :: [] : List AObj)) (fun n0 ⟨left34, l35⟩ => Yg N s_0 l v1 b5 b7 v10 n0 left34 l35) (((s_0.take v1.1.toNat).drop ((IntKind.wrap .i64 (4 * (IntKind.wrap .i64 (b5.toNat : Int)))).toNat)), []) h (fun i => i) ⟨(rW <| rA <| rE rfl <| rE rfl <| rE rfl <| rW <| rE rfl <| rX <| rX <| rX <| rX <| rX <| rX <| rX <| rX <| rV <| rA <| rN), (hE rfl <| hC rfl (rE rfl <| rE rfl <| rE rfl <| rS <| rN) <| hV lb <| hN), rfl, rfl, (roE rfl <| roE rfl <| roE (Q2 _ _ _) <| roN)⟩ fun n0 ⟨left34, l35⟩ h => ?_
   simp only [Yg] at h
   rw [cX, cY] at h
   apply iU h <;> intro h
   ·apply iU h <;> intro h
    ·obtain rfl := Qh h; exact (Frz.tuple' (.cons q4n p2))
    ·refine cP h Q0y p2 fun v38 h => ?_
     apply iU h <;> intro h
     ·refine ifT (cF (by decide)) ?_
      obtain rfl := Qh h; exact (Frz.tuple' (.cons q4n p2))
     ·apply iU h <;> intro h
      ·obtain rfl := Qh h; exact (Frz.tuple' (.cons q4n p2))
      ·obtain ⟨hk42, h⟩ := Ur h
       refine U2 (Xt (c := Q0.cells) (e := 4) (fun _ => rfl) (by first | (simp; done) | (simp [Z5]; done)) hk42) ?_
       refine V6 (c := Q0.cells) [v38.1] rfl ?_
       refine kU h fun h => ?_
       refine kU h fun h => ?_
       show Exists _
       exact ⟨(n0, ((left34.take left34.length).drop v38.2.1.toNat), (l35 ++ [v38.1])), h, Nat.lt_succ_self _, (rho [0, 1, 5]), ⟨(rW <| rA <| rE rfl <| rE rfl <| rE rfl <| rW <| rE rfl <| rX <| rX <| rX <| rX <| rX <| rX <| rX <| rX <| rV <| rA <| rN), (hE rfl <| hC rfl (rE rfl <| rE rfl <| rE rfl <| rL (by first | (simp; done) | (simp [Z5]; done)) rfl <| rN) <| hO rfl <| hN), rfl, rfl, (roE rfl <| roE rfl <| roE (Q2 _ _ _) <| roN)⟩⟩
   ·obtain rfl := Qh h; exact (Frz.tuple' (.cons (Frz.agg' (.cons (.p _) (.cons (.p _) (.cons (.p _) (.cons (Q0.frz_own (l := l35) rfl trivial (by first | (simp; done) | (simp [Z5]; done))) .nil))))) p2))
def Zf (N : Nat) (x : Q5) : Option ((Bool) × Q5) :=
 cond (decide (0 ≤ x.from')) (cond (Nat.ble x.from'.toNat x.kept.length && Nat.ble x.kept.length x.kept.length) (cond (Qe .lss (((x.kept.length - x.from'.toNat) : Nat) : Int) x.need)
 (some (false, x))
 (cond (decide (0 ≤ x.need)) (cond (Nat.ble 0 x.need.toNat && Nat.ble x.need.toNat (x.kept.length - x.from'.toNat)) ((Xs N ((((x.kept : List Int).drop (0 + x.from'.toNat * 1)).take x.need.toNat).map fun n => UInt8.ofNat n.toNat) x.l).bind fun v6 =>
 cond (Qe .neq v6.2.2 0)
 ((Zr N x v6.2.2).bind fun v9 =>
 some (v9.1, v9.2))
 (cond (Nat.ble ((x.out.length + 1 + 4096) * 56) 17592186044416) ((idx ((x.out ++ [(⟨0, 0, [], []⟩ : Q6)]) : List Q6) (x.out.length : Int)).bind fun y12 =>
 some (true, (⟨x.l, x.kept, (IntKind.wrap .i64 (x.from' + v6.2.1)), (IntKind.wrap .i64 (x.at' + v6.2.1)), x.need, x.e, 37, (((x.out ++ [(⟨0, 0, [], []⟩ : Q6)]) : List Q6).set (Int.toNat (x.out.length : Int)) v6.1)⟩ : Q5))) none)) none) none)) none) none
theorem W5 {N} {x} {r} (h : Zf N x = some r) : GC Tryd.prog G1 54 (.ptr 0 0 :: []) (.cells (.p (.int .i64 x.l.MaxPacket) :: .p (.int .i64 x.l.MaxDepth) :: .slice 1 1 0 x.kept.length :: .p (.int .i64 x.from') :: .p (.int .i64 x.at') :: .p (.int .i64 x.need) :: .p (.int .i64 x.e) :: .func (.func x.next) [.ptr 0 0] [] :: .slice 4 2 0 x.out.length :: []) :: .cells (Zl (cI .u8) x.kept) :: .cells (Zl Q6.cells x.out) :: []) (.p (.bool r.1)) (.cells (.p (.int .i64 r.2.l.MaxPacket) :: .p (.int .i64 r.2.l.MaxDepth) :: .slice 1 3 0 r.2.kept.length :: .p (.int .i64 r.2.from') :: .p (.int .i64 r.2.at') :: .p (.int .i64 r.2.need) :: .p (.int .i64 r.2.e) :: .func (.func r.2.next) [.ptr 0 0] [] :: .slice 4 4 0 r.2.out.length :: []) :: .dead :: .dead :: .cells (Zl (cI .u8) r.2.kept) :: .cells (Zl Q6.cells r.2.out) :: []) := by
 refine Gc k54 (Nat.le_of_ble_eq_true rfl) ?_
 unfold Zf at h
 rw [cX] at h
 refine Xd k38 ?_
 refine Q9 ?_
 refine kU h fun h => ?_
 obtain ⟨hk2, h⟩ := Ur h
 refine U2 hk2 ?_
 apply iU h <;> intro h
 ·obtain rfl := Qh h
  show Exists _
  exact ⟨(rho [0, 1, 2, 1, 2]), ⟨(rE rfl <| rN), (hE rfl <| hD <| hD <| hO rfl <| hO rfl <| hN), rfl, rfl, (roE rfl <| roE rfl <| roE rfl <| roE (Q2 _ _ _) <| roE (Q2 _ _ _) <| roN)⟩⟩
 ·refine Q9 ?_
  refine kU h fun h => ?_
  obtain ⟨hk5, h⟩ := Ur h
  refine U2 hk5 ?_
  refine Qgo (l := x.kept) (off := (0 + x.from'.toNat * 1)) (n := x.need.toNat) (by have e : x.kept.length = (x.kept : List Int).length := (by first | (simp; done) | (simp [Z5]; done)); simp only [Bool.and_eq_true, Nat.ble_eq] at hk2 hk5; omega) ?_
  refine cD h Q1b (.cons (.p _) (.cons q2 .nil)) fun v6 h => ?_
  apply iU h <;> intro h
  ·refine cG h W2 fun v9 h => ?_
   refine ⟨rho [0, 1, 2], (.cells (iI v9.2.l.MaxPacket :: iI v9.2.l.MaxDepth :: .slice 1 4 0 v9.2.kept.length :: iI v9.2.from' :: iI v9.2.at' :: iI v9.2.need :: iI v9.2.e :: .func (.func v9.2.next) [.ptr 0 0] [] :: .slice 4 5 0 v9.2.out.length :: []) :: .dead :: .dead :: .cells (iI v6.1.Type' :: iI v6.1.Channel :: iS v6.1.Ext :: .p (.slice 4 (Q0.rows v6.1.Values)) :: []) :: .cells (Zl (cI .u8) v9.2.kept) :: .cells (Zl Q6.cells v9.2.out) :: []), .p (.bool v9.1), ⟨(rE rfl <| rE rfl <| rN), (hE rfl <| hO rfl <| hO rfl <| hN), rfl, rfl, (roE rfl <| roE (Q2 _ _ _) <| roE (Q2 _ _ _) <| roN), rfl, (fR 0 rfl rfl rfl rfl <| fD <| fD <| fK rfl rfl <| fO 3 rfl rfl rfl <| fO 4 rfl rfl rfl <| fN), rfl⟩, ?_⟩
   obtain rfl := Qh h
   show Exists _
   exact ⟨(rho [0, 1, 2, 4, 5]), ⟨(rE rfl <| rN), (hE rfl <| hD <| hD <| hO rfl <| hO rfl <| hN), rfl, rfl, (roE rfl <| roE rfl <| roE rfl <| roE (Q2 _ _ _) <| roE (Q2 _ _ _) <| roN)⟩⟩
  ·refine Q9 ?_
   obtain ⟨hk11, h⟩ := Ur h
   refine U2 (Xt (c := Q6.cells) (e := 4) (fun _ => rfl) (by first | (simp; done) | (simp [Z5]; done)) hk11) ?_
   refine V6 (c := Q6.cells) [(⟨0, 0, [], []⟩ : Q6)] rfl ?_
   obtain ⟨y12, hy13, h⟩ := J3 h
   refine U2 (Q96 hy13 (by first | (simp; done) | (simp [Z5]; done))) ?_
   refine U2 (Qd9 (c := Q6.cells) (e := 4) (fun _ => rfl) hy13 (off := 0) (by omega) rfl (by decide)) ?_
   refine Qev (c := Q6.cells) (e := 4) (fun _ => rfl) hy13 v6.1 (off := 0) (by first | omega | (simp only [Q4q, orI, Qlf, Q9n, Q1e, U7]; omega)) rfl (by simp) ?_
   obtain rfl := Qh h
   show Exists _
   exact ⟨(rho [0, 1, 2, 1, 5]), ⟨(rE rfl <| rN), (hC rfl (rE rfl <| rE rfl <| rE rfl <| rE rfl <| rE rfl <| rE rfl <| rE rfl <| rE rfl <| rL (by first | (simp; done) | (simp [Z5]; done)) rfl <| rN) <| hD <| hD <| hO rfl <| hO rfl <| hN), rfl, rfl, (roE rfl <| roE rfl <| roE rfl <| roE (Q2 _ _ _) <| roE (Q2 _ _ _) <| roN)⟩⟩
def Zi (N : Nat) (x : Q5) : Option ((Bool) × Q5) :=
 cond (decide (0 ≤ x.from')) (cond (Nat.ble x.from'.toNat x.kept.length && Nat.ble x.kept.length x.kept.length) (cond (Qe .lss (((x.kept.length - x.from'.toNat) : Nat) : Int) 8)
 (some (false, x))
 (cond (Nat.ble 0 8 && Nat.ble 8 (x.kept.length - x.from'.toNat)) ((Y0 N ((((x.kept : List Int).drop (0 + x.from'.toNat * 1)).take 8).map fun n => UInt8.ofNat n.toNat) x.l).bind fun v5 =>
 cond (Qe .neq v5.2 0)
 ((Zr N x v5.2).bind fun v8 =>
 some (v8.1, v8.2))
 (some (true, (⟨x.l, x.kept, x.from', x.at', v5.1, x.e, 54, x.out⟩ : Q5)))) none)) none) none
theorem W3 {N} {x} {r} (h : Zi N x = some r) : GC Tryd.prog G1 37 (.ptr 0 0 :: []) (.cells (.p (.int .i64 x.l.MaxPacket) :: .p (.int .i64 x.l.MaxDepth) :: .slice 1 1 0 x.kept.length :: .p (.int .i64 x.from') :: .p (.int .i64 x.at') :: .p (.int .i64 x.need) :: .p (.int .i64 x.e) :: .func (.func x.next) [.ptr 0 0] [] :: .slice 4 2 0 x.out.length :: []) :: .cells (Zl (cI .u8) x.kept) :: .cells (Zl Q6.cells x.out) :: []) (.p (.bool r.1)) (.cells (.p (.int .i64 r.2.l.MaxPacket) :: .p (.int .i64 r.2.l.MaxDepth) :: .slice 1 3 0 r.2.kept.length :: .p (.int .i64 r.2.from') :: .p (.int .i64 r.2.at') :: .p (.int .i64 r.2.need) :: .p (.int .i64 r.2.e) :: .func (.func r.2.next) [.ptr 0 0] [] :: .slice 4 4 0 r.2.out.length :: []) :: .dead :: .dead :: .cells (Zl (cI .u8) r.2.kept) :: .cells (Zl Q6.cells r.2.out) :: []) := by
 refine Gc k37 (Nat.le_of_ble_eq_true rfl) ?_
 unfold Zi at h
 rw [cX] at h
 refine Xd k38 ?_
 refine Q9 ?_
 refine kU h fun h => ?_
 obtain ⟨hk2, h⟩ := Ur h
 refine U2 hk2 ?_
 apply iU h <;> intro h
 ·obtain rfl := Qh h
  show Exists _
  exact ⟨(rho [0, 1, 2, 1, 2]), ⟨(rE rfl <| rN), (hE rfl <| hD <| hD <| hO rfl <| hO rfl <| hN), rfl, rfl, (roE rfl <| roE rfl <| roE rfl <| roE (Q2 _ _ _) <| roE (Q2 _ _ _) <| roN)⟩⟩
 ·refine Q9 ?_
  obtain ⟨hk4, h⟩ := Ur h
  refine U2 hk4 ?_
  refine Qgo (l := x.kept) (off := (0 + x.from'.toNat * 1)) (n := 8) (by have e : x.kept.length = (x.kept : List Int).length := (by first | (simp; done) | (simp [Z5]; done)); simp only [Bool.and_eq_true, Nat.ble_eq] at hk2 hk4; omega) ?_
  refine cD h Xm (.cons (.p _) (.cons q2 .nil)) fun v5 h => ?_
  apply iU h <;> intro h
  ·refine cG h W2 fun v8 h => ?_
   refine ⟨rho [0, 1, 2], (.cells (iI v8.2.l.MaxPacket :: iI v8.2.l.MaxDepth :: .slice 1 3 0 v8.2.kept.length :: iI v8.2.from' :: iI v8.2.at' :: iI v8.2.need :: iI v8.2.e :: .func (.func v8.2.next) [.ptr 0 0] [] :: .slice 4 4 0 v8.2.out.length :: []) :: .dead :: .dead :: .cells (Zl (cI .u8) v8.2.kept) :: .cells (Zl Q6.cells v8.2.out) :: []), .p (.bool v8.1), ⟨(rE rfl <| rE rfl <| rN), (hE rfl <| hO rfl <| hO rfl <| hN), rfl, rfl, (roE rfl <| roE (Q2 _ _ _) <| roE (Q2 _ _ _) <| roN), rfl, (fR 0 rfl rfl rfl rfl <| fD <| fD <| fO 3 rfl rfl rfl <| fO 4 rfl rfl rfl <| fN), rfl⟩, ?_⟩
   obtain rfl := Qh h
   show Exists _
   exact ⟨(rho [0, 1, 2, 3, 4]), ⟨(rE rfl <| rN), (hE rfl <| hD <| hD <| hO rfl <| hO rfl <| hN), rfl, rfl, (roE rfl <| roE rfl <| roE rfl <| roE (Q2 _ _ _) <| roE (Q2 _ _ _) <| roN)⟩⟩
  ·obtain rfl := Qh h
   show Exists _
   exact ⟨(rho [0, 1, 2, 1, 2]), ⟨(rE rfl <| rN), (hE rfl <| hD <| hD <| hO rfl <| hO rfl <| hN), rfl, rfl, (roE rfl <| roE rfl <| roE rfl <| roE (Q2 _ _ _) <| roE (Q2 _ _ _) <| roN)⟩⟩
def Qd (N : Nat) : Nat → Int → Int → Int → Int → Int → Int → Nat → (List Int) → (List Q6) → Option (((List Q6) × Int) × Q5)
 | 0, _, _, _, _, _, _, _, _, _ => none
 | n + 1, c28, c29, c30, c31, c32, c33, q34, l35, l36 =>
  cond (Nat.beq q34 37)
  ((Zi N (⟨(⟨c28, c29⟩ : Qc), l35, c30, c31, c32, c33, 37, l36⟩ : Q5)).bind fun v38 =>
  cond v38.1
  (Qd N n v38.2.l.MaxPacket v38.2.l.MaxDepth v38.2.from' v38.2.at' v38.2.need v38.2.e v38.2.next v38.2.kept v38.2.out)
  (cond (Qe .gtr v38.2.from' 0)
  (cond (decide (0 ≤ v38.2.from')) (cond (Nat.ble v38.2.from'.toNat v38.2.kept.length && Nat.ble v38.2.kept.length v38.2.kept.length) (cond (Nat.ble 1 v38.2.kept.length) (cond (Nat.ble 0 (((((v38.2.kept : List Int).drop (0 + v38.2.from'.toNat * 1)).take (v38.2.kept.length - v38.2.from'.toNat)).take v38.2.kept.length).length) && Nat.ble (((((v38.2.kept : List Int).drop (0 + v38.2.from'.toNat * 1)).take (v38.2.kept.length - v38.2.from'.toNat)).take v38.2.kept.length).length) v38.2.kept.length) (some ((v38.2.out, v38.2.e), (⟨v38.2.l, (((((((v38.2.kept : List Int).drop (0 + v38.2.from'.toNat * 1)).take (v38.2.kept.length - v38.2.from'.toNat)).take v38.2.kept.length) ++ (v38.2.kept : List Int).drop ((((v38.2.kept : List Int).drop (0 + v38.2.from'.toNat * 1)).take (v38.2.kept.length - v38.2.from'.toNat)).take v38.2.kept.length).length) : List Int).take (((((v38.2.kept : List Int).drop (0 + v38.2.from'.toNat * 1)).take (v38.2.kept.length - v38.2.from'.toNat)).take v38.2.kept.length).length)), 0, v38.2.at', v38.2.need, v38.2.e, v38.2.next, []⟩ : Q5))) none) none) none) none)
  (some ((v38.2.out, v38.2.e), (⟨v38.2.l, v38.2.kept, v38.2.from', v38.2.at', v38.2.need, v38.2.e, v38.2.next, []⟩ : Q5)))))
  (cond (Nat.beq q34 54)
  ((Zf N (⟨(⟨c28, c29⟩ : Qc), l35, c30, c31, c32, c33, 54, l36⟩ : Q5)).bind fun v47 =>
  cond v47.1
  (Qd N n v47.2.l.MaxPacket v47.2.l.MaxDepth v47.2.from' v47.2.at' v47.2.need v47.2.e v47.2.next v47.2.kept v47.2.out)
  (cond (Qe .gtr v47.2.from' 0)
  (cond (decide (0 ≤ v47.2.from')) (cond (Nat.ble v47.2.from'.toNat v47.2.kept.length && Nat.ble v47.2.kept.length v47.2.kept.length) (cond (Nat.ble 1 v47.2.kept.length) (cond (Nat.ble 0 (((((v47.2.kept : List Int).drop (0 + v47.2.from'.toNat * 1)).take (v47.2.kept.length - v47.2.from'.toNat)).take v47.2.kept.length).length) && Nat.ble (((((v47.2.kept : List Int).drop (0 + v47.2.from'.toNat * 1)).take (v47.2.kept.length - v47.2.from'.toNat)).take v47.2.kept.length).length) v47.2.kept.length) (some ((v47.2.out, v47.2.e), (⟨v47.2.l, (((((((v47.2.kept : List Int).drop (0 + v47.2.from'.toNat * 1)).take (v47.2.kept.length - v47.2.from'.toNat)).take v47.2.kept.length) ++ (v47.2.kept : List Int).drop ((((v47.2.kept : List Int).drop (0 + v47.2.from'.toNat * 1)).take (v47.2.kept.length - v47.2.from'.toNat)).take v47.2.kept.length).length) : List Int).take (((((v47.2.kept : List Int).drop (0 + v47.2.from'.toNat * 1)).take (v47.2.kept.length - v47.2.from'.toNat)).take v47.2.kept.length).length)), 0, v47.2.at', v47.2.need, v47.2.e, v47.2.next, []⟩ : Q5))) none) none) none) none)
  (some ((v47.2.out, v47.2.e), (⟨v47.2.l, v47.2.kept, v47.2.from', v47.2.at', v47.2.need, v47.2.e, v47.2.next, []⟩ : Q5)))))
  (none))
def Z7 (N : Nat) : Nat → Int → Int → Int → Int → Int → Int → Nat → (List Int) → (List Q6) → Option (((List Q6) × Int) × Q5)
 | 0, _, _, _, _, _, _, _, _, _ => none
 | n + 1, c81, c82, c83, c84, c85, c86, q87, l88, l89 =>
  cond (Nat.beq q87 37)
  ((Zi N (⟨(⟨c81, c82⟩ : Qc), l88, c83, c84, c85, c86, 37, l89⟩ : Q5)).bind fun v91 =>
  cond v91.1
  (Z7 N n v91.2.l.MaxPacket v91.2.l.MaxDepth v91.2.from' v91.2.at' v91.2.need v91.2.e v91.2.next v91.2.kept v91.2.out)
  (cond (Qe .gtr v91.2.from' 0)
  (cond (decide (0 ≤ v91.2.from')) (cond (Nat.ble v91.2.from'.toNat v91.2.kept.length && Nat.ble v91.2.kept.length v91.2.kept.length) (cond (Nat.ble 1 v91.2.kept.length) (cond (Nat.ble 0 (((((v91.2.kept : List Int).drop (0 + v91.2.from'.toNat * 1)).take (v91.2.kept.length - v91.2.from'.toNat)).take v91.2.kept.length).length) && Nat.ble (((((v91.2.kept : List Int).drop (0 + v91.2.from'.toNat * 1)).take (v91.2.kept.length - v91.2.from'.toNat)).take v91.2.kept.length).length) v91.2.kept.length) (some ((v91.2.out, v91.2.e), (⟨v91.2.l, (((((((v91.2.kept : List Int).drop (0 + v91.2.from'.toNat * 1)).take (v91.2.kept.length - v91.2.from'.toNat)).take v91.2.kept.length) ++ (v91.2.kept : List Int).drop ((((v91.2.kept : List Int).drop (0 + v91.2.from'.toNat * 1)).take (v91.2.kept.length - v91.2.from'.toNat)).take v91.2.kept.length).length) : List Int).take (((((v91.2.kept : List Int).drop (0 + v91.2.from'.toNat * 1)).take (v91.2.kept.length - v91.2.from'.toNat)).take v91.2.kept.length).length)), 0, v91.2.at', v91.2.need, v91.2.e, v91.2.next, []⟩ : Q5))) none) none) none) none)
  (some ((v91.2.out, v91.2.e), (⟨v91.2.l, v91.2.kept, v91.2.from', v91.2.at', v91.2.need, v91.2.e, v91.2.next, []⟩ : Q5)))))
  (cond (Nat.beq q87 54)
  ((Zf N (⟨(⟨c81, c82⟩ : Qc), l88, c83, c84, c85, c86, 54, l89⟩ : Q5)).bind fun v100 =>
  cond v100.1
  (Z7 N n v100.2.l.MaxPacket v100.2.l.MaxDepth v100.2.from' v100.2.at' v100.2.need v100.2.e v100.2.next v100.2.kept v100.2.out)
  (cond (Qe .gtr v100.2.from' 0)
  (cond (decide (0 ≤ v100.2.from')) (cond (Nat.ble v100.2.from'.toNat v100.2.kept.length && Nat.ble v100.2.kept.length v100.2.kept.length) (cond (Nat.ble 1 v100.2.kept.length) (cond (Nat.ble 0 (((((v100.2.kept : List Int).drop (0 + v100.2.from'.toNat * 1)).take (v100.2.kept.length - v100.2.from'.toNat)).take v100.2.kept.length).length) && Nat.ble (((((v100.2.kept : List Int).drop (0 + v100.2.from'.toNat * 1)).take (v100.2.kept.length - v100.2.from'.toNat)).take v100.2.kept.length).length) v100.2.kept.length) (some ((v100.2.out, v100.2.e), (⟨v100.2.l, (((((((v100.2.kept : List Int).drop (0 + v100.2.from'.toNat * 1)).take (v100.2.kept.length - v100.2.from'.toNat)).take v100.2.kept.length) ++ (v100.2.kept : List Int).drop ((((v100.2.kept : List Int).drop (0 + v100.2.from'.toNat * 1)).take (v100.2.kept.length - v100.2.from'.toNat)).take v100.2.kept.length).length) : List Int).take (((((v100.2.kept : List Int).drop (0 + v100.2.from'.toNat * 1)).take (v100.2.kept.length - v100.2.from'.toNat)).take v100.2.kept.length).length)), 0, v100.2.at', v100.2.need, v100.2.e, v100.2.next, []⟩ : Q5))) none) none) none) none)
  (some ((v100.2.out, v100.2.e), (⟨v100.2.l, v100.2.kept, v100.2.from', v100.2.at', v100.2.need, v100.2.e, v100.2.next, []⟩ : Q5)))))
  (none))
def Qi (N : Nat) (x : Q5) (chunk : List UInt8) : Option (((List Q6) × Int) × Q5) :=
 cond (Qe .neq x.e 0)
 (some (([], x.e), x))
 (cond (Nat.beq chunk.length 0)
 (Qd N N x.l.MaxPacket x.l.MaxDepth x.from' x.at' x.need x.e x.next x.kept x.out)
 (cond (Nat.ble ((x.kept.length + chunk.length + 4096) * 1) 17592186044416) (Z7 N N x.l.MaxPacket x.l.MaxDepth x.from' x.at' x.need x.e x.next (x.kept ++ (chunk.map fun b => (b.toNat : Int))) x.out) none))
theorem Zs {N} {x} {chunk} {r} (h : Qi N x chunk = some r) : GC Tryd.prog G1 18 (.ptr 0 0 :: .p (.str chunk) :: []) (.cells (.p (.int .i64 x.l.MaxPacket) :: .p (.int .i64 x.l.MaxDepth) :: .slice 1 1 0 x.kept.length :: .p (.int .i64 x.from') :: .p (.int .i64 x.at') :: .p (.int .i64 x.need) :: .p (.int .i64 x.e) :: .func (.func x.next) [.ptr 0 0] [] :: .slice 4 2 0 x.out.length :: []) :: .cells (Zl (cI .u8) x.kept) :: .cells (Zl Q6.cells x.out) :: []) (.p (.tuple [.slice 4 (Z5 Q6.cells r.1.1), .int .i64 r.1.2])) (.cells (.p (.int .i64 r.2.l.MaxPacket) :: .p (.int .i64 r.2.l.MaxDepth) :: .slice 1 3 0 r.2.kept.length :: .p (.int .i64 r.2.from') :: .p (.int .i64 r.2.at') :: .p (.int .i64 r.2.need) :: .p (.int .i64 r.2.e) :: .func (.func r.2.next) [.ptr 0 0] [] :: .slice 4 4 0 r.2.out.length :: []) :: .dead :: .dead :: .cells (Zl (cI .u8) r.2.kept) :: .cells (Zl Q6.cells r.2.out) :: []) := by
 refine Gc k18 (Nat.le_of_ble_eq_true rfl) ?_
 unfold Qi at h
 rw [cX] at h
 apply iU h <;> intro h
 ·refine Q9 ?_
  obtain rfl := Qh h
  show Exists _
  exact ⟨(rho [0, 1, 2, 1, 2]), ⟨(rF (Frz.tuple' (.cons (.nil _) p1)) <| rN), (hE rfl <| hD <| hD <| hO rfl <| hO rfl <| hN), rfl, rfl, (roE rfl <| roE rfl <| roE rfl <| roE (Q2 _ _ _) <| roE (Q2 _ _ _) <| roN)⟩⟩
 ·refine Qj9 (b := chunk) ?_
  apply iU h <;> intro h
  ·refine lpC (τ := Int × Int × Int × Int × Int × Int × Nat × (List Int) × (List Q6)) (fun ⟨_, _, _, _, _, _, _, _, _⟩ => (.ptr 0 0 :: a16 (a16 (a16 (a16 (a4 ([]))))) : List AV)) (fun ⟨c28, c29, c30, c31, c32, c33, q34, l35, l36⟩ => (.cells (iI c28 :: iI c29 :: .slice 1 3 0 l35.length :: iI c30 :: iI c31 :: iI c32 :: iI c33 :: .func (.func q34) [.ptr 0 0] [] :: .slice 4 4 0 l36.length :: []) :: .dead :: .dead :: .cells (Zl (cI .u8) l35) :: .cells (Zl Q6.cells l36) :: [] : List AObj)) (fun n0 ⟨c28, c29, c30, c31, c32, c33, q34, l35, l36⟩ => Qd N n0 c28 c29 c30 c31 c32 c33 q34 l35 l36) (x.l.MaxPacket, x.l.MaxDepth, x.from', x.at', x.need, x.e, x.next, x.kept, x.out) h (rho [0, 1, 2, 1, 2]) ⟨(rE rfl <| rX <| rX <| rX <| rX <| rX <| rX <| rX <| rX <| rV <| rN), (hE rfl <| hD <| hD <| hO rfl <| hO rfl <| hN), rfl, rfl, (roE rfl <| roE rfl <| roE rfl <| roE (Q2 _ _ _) <| roE (Q2 _ _ _) <| roN)⟩ fun n0 ⟨c28, c29, c30, c31, c32, c33, q34, l35, l36⟩ h => ?_
   simp only [Qd] at h
   rw [cX] at h
   refine fnU h (fun e h => ?_) fun h => ?_
   ·subst e
    refine cG h W3 fun v38 h => ?_
    refine ⟨rho [0, 3, 4], (.cells (iI v38.2.l.MaxPacket :: iI v38.2.l.MaxDepth :: .slice 1 5 0 v38.2.kept.length :: iI v38.2.from' :: iI v38.2.at' :: iI v38.2.need :: iI v38.2.e :: .func (.func v38.2.next) [.ptr 0 0] [] :: .slice 4 6 0 v38.2.out.length :: []) :: .dead :: .dead :: .dead :: .dead :: .cells (Zl (cI .u8) v38.2.kept) :: .cells (Zl Q6.cells v38.2.out) :: []), .p (.bool v38.1), ⟨(rE rfl <| rN), (hE rfl <| hO rfl <| hO rfl <| hN), rfl, rfl, (roE rfl <| roE (Q2 _ _ _) <| roE (Q2 _ _ _) <| roN), rfl, (fR 0 rfl rfl rfl rfl <| fD <| fD <| fD <| fD <| fO 3 rfl rfl rfl <| fO 4 rfl rfl rfl <| fN), rfl⟩, ?_⟩
    apply iU h <;> intro h
    ·show Exists _
     exact ⟨(n0, v38.2.l.MaxPacket, v38.2.l.MaxDepth, v38.2.from', v38.2.at', v38.2.need, v38.2.e, v38.2.next, v38.2.kept, v38.2.out), h, Nat.lt_succ_self _, (rho [0, 1, 2, 5, 6]), ⟨(rE rfl <| rX <| rX <| rX <| rX <| rX <| rX <| rX <| rX <| rV <| rN), (hE rfl <| hD <| hD <| hO rfl <| hO rfl <| hN), rfl, rfl, (roE rfl <| roE rfl <| roE rfl <| roE (Q2 _ _ _) <| roE (Q2 _ _ _) <| roN)⟩⟩
    ·apply iU h <;> intro h
     ·refine Q9 ?_
      obtain ⟨hk42, h⟩ := Ur h
      obtain ⟨hk43, h⟩ := Ur h
      refine Vy [0] (r := .slice 1 5 (0 + v38.2.from'.toNat * 1) (v38.2.kept.length - v38.2.from'.toNat)) rfl rfl (fun a ha o ho => ?_) (Xd k38 ?_) ?_
      ·simp only [List.mem_cons, List.mem_nil_iff, or_false] at ha; subst ha; cases ho; rfl
      ·refine Q9 ?_
       refine U2 hk42 ?_
       refine U2 hk43 ?_
       exact ⟨rfl, [], (List.append_nil _).symm⟩
      refine Qb5 (l := v38.2.kept) (off := (0 + v38.2.from'.toNat * 1)) (n := (v38.2.kept.length - v38.2.from'.toNat)) (by have e : v38.2.kept.length = (v38.2.kept : List Int).length := (by first | (simp; done) | (simp [Z5]; done)); simp only [Bool.and_eq_true, Nat.ble_eq] at hk43; omega) ?_
      obtain ⟨hk44, h⟩ := Ur h
      refine U2 (Q2o (c := (cI .u8)) (l := (v38.2.kept : List Int)) (fun _ => rfl) (by first | (simp; done) | (simp [Z5]; done)) hk44) ?_
      refine Q5u (c := (cI .u8)) (l := (v38.2.kept : List Int)) (new := (((v38.2.kept : List Int).drop (0 + v38.2.from'.toNat * 1)).take (v38.2.kept.length - v38.2.from'.toNat))) (fun _ => rfl) ?_
      obtain ⟨hk45, h⟩ := Ur h
      refine U2 hk45 ?_
      refine Q9 ?_
      obtain rfl := Qh h
      show Exists _
      exact ⟨(rho [0, 1, 2, 5, 8]), ⟨(rF (Frz.tuple' (.cons (frz_own (c := Q6.cells) (l := (v38.2.out : List Q6)) (fun _ => rfl) rfl rfl (by first | (simp; done) | (simp [Z5]; done))) p1)) <| rN), (hC rfl (rE rfl <| rE rfl <| rL (List.length_take_of_le (l := ((((((v38.2.kept : List Int).drop (0 + v38.2.from'.toNat * 1)).take (v38.2.kept.length - v38.2.from'.toNat)).take v38.2.kept.length) ++ (v38.2.kept : List Int).drop ((((v38.2.kept : List Int).drop (0 + v38.2.from'.toNat * 1)).take (v38.2.kept.length - v38.2.from'.toNat)).take v38.2.kept.length).length) : List Int)) (by have e : v38.2.kept.length = ((((((v38.2.kept : List Int).drop (0 + v38.2.from'.toNat * 1)).take (v38.2.kept.length - v38.2.from'.toNat)).take v38.2.kept.length) ++ (v38.2.kept : List Int).drop ((((v38.2.kept : List Int).drop (0 + v38.2.from'.toNat * 1)).take (v38.2.kept.length - v38.2.from'.toNat)).take v38.2.kept.length).length) : List Int).length := (by simp <;> omega); simp only [Bool.and_eq_true, Nat.ble_eq] at hk45; omega)).symm rfl <| rE rfl <| rE rfl <| rE rfl <| rE rfl <| rE rfl <| rS <| rN) <| hD <| hD <| Qki (((((v38.2.kept : List Int).drop (0 + v38.2.from'.toNat * 1)).take (v38.2.kept.length - v38.2.from'.toNat)).take v38.2.kept.length).length) rfl <| hV lb <| hN), rfl, rfl, (roE rfl <| roE rfl <| roE rfl <| roE (Q2 _ _ _) <| roE (Q2 _ _ _) <| roN)⟩⟩
     ·refine Q9 ?_
      obtain rfl := Qh h
      show Exists _
      exact ⟨(rho [0, 1, 2, 5, 8]), ⟨(rF (Frz.tuple' (.cons (frz_own (c := Q6.cells) (l := (v38.2.out : List Q6)) (fun _ => rfl) rfl rfl (by first | (simp; done) | (simp [Z5]; done))) p1)) <| rN), (hC rfl (rE rfl <| rE rfl <| rE rfl <| rE rfl <| rE rfl <| rE rfl <| rE rfl <| rE rfl <| rS <| rN) <| hD <| hD <| hO rfl <| hV lb <| hN), rfl, rfl, (roE rfl <| roE rfl <| roE rfl <| roE (Q2 _ _ _) <| roE (Q2 _ _ _) <| roN)⟩⟩
   ·skip
    refine fnU h (fun e h => ?_) fun h => ?_
    ·subst e
     refine cG h W5 fun v47 h => ?_
     refine ⟨rho [0, 3, 4], (.cells (iI v47.2.l.MaxPacket :: iI v47.2.l.MaxDepth :: .slice 1 5 0 v47.2.kept.length :: iI v47.2.from' :: iI v47.2.at' :: iI v47.2.need :: iI v47.2.e :: .func (.func v47.2.next) [.ptr 0 0] [] :: .slice 4 6 0 v47.2.out.length :: []) :: .dead :: .dead :: .dead :: .dead :: .cells (Zl (cI .u8) v47.2.kept) :: .cells (Zl Q6.cells v47.2.out) :: []), .p (.bool v47.1), ⟨(rE rfl <| rN), (hE rfl <| hO rfl <| hO rfl <| hN), rfl, rfl, (roE rfl <| roE (Q2 _ _ _) <| roE (Q2 _ _ _) <| roN), rfl, (fR 0 rfl rfl rfl rfl <| fD <| fD <| fD <| fD <| fO 3 rfl rfl rfl <| fO 4 rfl rfl rfl <| fN), rfl⟩, ?_⟩
     apply iU h <;> intro h
     ·show Exists _
      exact ⟨(n0, v47.2.l.MaxPacket, v47.2.l.MaxDepth, v47.2.from', v47.2.at', v47.2.need, v47.2.e, v47.2.next, v47.2.kept, v47.2.out), h, Nat.lt_succ_self _, (rho [0, 1, 2, 5, 6]), ⟨(rE rfl <| rX <| rX <| rX <| rX <| rX <| rX <| rX <| rX <| rV <| rN), (hE rfl <| hD <| hD <| hO rfl <| hO rfl <| hN), rfl, rfl, (roE rfl <| roE rfl <| roE rfl <| roE (Q2 _ _ _) <| roE (Q2 _ _ _) <| roN)⟩⟩
     ·apply iU h <;> intro h
      ·refine Q9 ?_
       obtain ⟨hk51, h⟩ := Ur h
       obtain ⟨hk52, h⟩ := Ur h
       refine Vy [0] (r := .slice 1 5 (0 + v47.2.from'.toNat * 1) (v47.2.kept.length - v47.2.from'.toNat)) rfl rfl (fun a ha o ho => ?_) (Xd k38 ?_) ?_
       ·simp only [List.mem_cons, List.mem_nil_iff, or_false] at ha; subst ha; cases ho; rfl
       ·refine Q9 ?_
        refine U2 hk51 ?_
        refine U2 hk52 ?_
        exact ⟨rfl, [], (List.append_nil _).symm⟩
       refine Qb5 (l := v47.2.kept) (off := (0 + v47.2.from'.toNat * 1)) (n := (v47.2.kept.length - v47.2.from'.toNat)) (by have e : v47.2.kept.length = (v47.2.kept : List Int).length := (by first | (simp; done) | (simp [Z5]; done)); simp only [Bool.and_eq_true, Nat.ble_eq] at hk52; omega) ?_
       obtain ⟨hk53, h⟩ := Ur h
       refine U2 (Q2o (c := (cI .u8)) (l := (v47.2.kept : List Int)) (fun _ => rfl) (by first | (simp; done) | (simp [Z5]; done)) hk53) ?_
       refine Q5u (c := (cI .u8)) (l := (v47.2.kept : List Int)) (new := (((v47.2.kept : List Int).drop (0 + v47.2.from'.toNat * 1)).take (v47.2.kept.length - v47.2.from'.toNat))) (fun _ => rfl) ?_
       obtain ⟨hk54, h⟩ := Ur h
       refine U2 hk54 ?_
       refine Q9 ?_
       obtain rfl := Qh h
       show Exists _
       exact ⟨(rho [0, 1, 2, 5, 8]), ⟨(rF (Frz.tuple' (.cons (frz_own (c := Q6.cells) (l := (v47.2.out : List Q6)) (fun _ => rfl) rfl rfl (by first | (simp; done) | (simp [Z5]; done))) p1)) <| rN), (hC rfl (rE rfl <| rE rfl <| rL (List.length_take_of_le (l := ((((((v47.2.kept : List Int).drop (0 + v47.2.from'.toNat * 1)).take (v47.2.kept.length - v47.2.from'.toNat)).take v47.2.kept.length) ++ (v47.2.kept : List Int).drop ((((v47.2.kept : List Int).drop (0 + v47.2.from'.toNat * 1)).take (v47.2.kept.length - v47.2.from'.toNat)).take v47.2.kept.length).length) : List Int)) (by have e : v47.2.kept.length = ((((((v47.2.kept : List Int).drop (0 + v47.2.from'.toNat * 1)).take (v47.2.kept.length - v47.2.from'.toNat)).take v47.2.kept.length) ++ (v47.2.kept : List Int).drop ((((v47.2.kept : List Int).drop (0 + v47.2.from'.toNat * 1)).take (v47.2.kept.length - v47.2.from'.toNat)).take v47.2.kept.length).length) : List Int).length := (by simp <;> omega); simp only [Bool.and_eq_true, Nat.ble_eq] at hk54; omega)).symm rfl <| rE rfl <| rE rfl <| rE rfl <| rE rfl <| rE rfl <| rS <| rN) <| hD <| hD <| Qki (((((v47.2.kept : List Int).drop (0 + v47.2.from'.toNat * 1)).take (v47.2.kept.length - v47.2.from'.toNat)).take v47.2.kept.length).length) rfl <| hV lb <| hN), rfl, rfl, (roE rfl <| roE rfl <| roE rfl <| roE (Q2 _ _ _) <| roE (Q2 _ _ _) <| roN)⟩⟩
      ·refine Q9 ?_
       obtain rfl := Qh h
       show Exists _
       exact ⟨(rho [0, 1, 2, 5, 8]), ⟨(rF (Frz.tuple' (.cons (frz_own (c := Q6.cells) (l := (v47.2.out : List Q6)) (fun _ => rfl) rfl rfl (by first | (simp; done) | (simp [Z5]; done))) p1)) <| rN), (hC rfl (rE rfl <| rE rfl <| rE rfl <| rE rfl <| rE rfl <| rE rfl <| rE rfl <| rE rfl <| rS <| rN) <| hD <| hD <| hO rfl <| hV lb <| hN), rfl, rfl, (roE rfl <| roE rfl <| roE rfl <| roE (Q2 _ _ _) <| roE (Q2 _ _ _) <| roN)⟩⟩
    ·skip
     first | (cases h; done) | (simp [Qei] at h; done)
  ·obtain ⟨hk55, h⟩ := Ur h
   refine U2 (Xt (c := (cI .u8)) (e := 1) (l := x.kept) (fun _ => rfl) (by first | (simp; done) | (simp [Z5]; done)) hk55) ?_
   refine V6 (c := (cI .u8)) (l := x.kept) (chunk.map fun b => (b.toNat : Int)) rfl ?_
   refine lpC (τ := Int × Int × Int × Int × Int × Int × Nat × (List Int) × (List Q6)) (fun ⟨_, _, _, _, _, _, _, _, _⟩ => (.ptr 0 0 :: a16 (a16 (a16 (a16 (a4 ([]))))) : List AV)) (fun ⟨c81, c82, c83, c84, c85, c86, q87, l88, l89⟩ => (.cells (iI c81 :: iI c82 :: .slice 1 4 0 l88.length :: iI c83 :: iI c84 :: iI c85 :: iI c86 :: .func (.func q87) [.ptr 0 0] [] :: .slice 4 5 0 l89.length :: []) :: .dead :: .dead :: .dead :: .cells (Zl (cI .u8) l88) :: .cells (Zl Q6.cells l89) :: [] : List AObj)) (fun n1 ⟨c81, c82, c83, c84, c85, c86, q87, l88, l89⟩ => Z7 N n1 c81 c82 c83 c84 c85 c86 q87 l88 l89) (x.l.MaxPacket, x.l.MaxDepth, x.from', x.at', x.need, x.e, x.next, (x.kept ++ (chunk.map fun b => (b.toNat : Int))), x.out) h (rho [0, 1, 2, 3, 3, 2]) ⟨(rE rfl <| rX <| rX <| rX <| rX <| rX <| rX <| rX <| rX <| rV <| rN), (hC rfl (rE rfl <| rE rfl <| rL (by first | (simp; done) | (simp [Z5]; done)) rfl <| rE rfl <| rE rfl <| rE rfl <| rE rfl <| rE rfl <| rE rfl <| rN) <| hD <| hD <| hD <| hO rfl <| hO rfl <| hN), rfl, rfl, (roE rfl <| roE rfl <| roE rfl <| roE rfl <| roE (Q2 _ _ _) <| roE (Q2 _ _ _) <| roN)⟩ fun n1 ⟨c81, c82, c83, c84, c85, c86, q87, l88, l89⟩ h => ?_
   simp only [Z7] at h
   rw [cX] at h
   refine fnU h (fun e h => ?_) fun h => ?_
   ·subst e
    refine cG h W3 fun v91 h => ?_
    refine ⟨rho [0, 4, 5], (.cells (iI v91.2.l.MaxPacket :: iI v91.2.l.MaxDepth :: .slice 1 6 0 v91.2.kept.length :: iI v91.2.from' :: iI v91.2.at' :: iI v91.2.need :: iI v91.2.e :: .func (.func v91.2.next) [.ptr 0 0] [] :: .slice 4 7 0 v91.2.out.length :: []) :: .dead :: .dead :: .dead :: .dead :: .dead :: .cells (Zl (cI .u8) v91.2.kept) :: .cells (Zl Q6.cells v91.2.out) :: []), .p (.bool v91.1), ⟨(rE rfl <| rN), (hE rfl <| hO rfl <| hO rfl <| hN), rfl, rfl, (roE rfl <| roE (Q2 _ _ _) <| roE (Q2 _ _ _) <| roN), rfl, (fR 0 rfl rfl rfl rfl <| fD <| fD <| fD <| fD <| fD <| fO 3 rfl rfl rfl <| fO 4 rfl rfl rfl <| fN), rfl⟩, ?_⟩
    apply iU h <;> intro h
    ·show Exists _
     exact ⟨(n1, v91.2.l.MaxPacket, v91.2.l.MaxDepth, v91.2.from', v91.2.at', v91.2.need, v91.2.e, v91.2.next, v91.2.kept, v91.2.out), h, Nat.lt_succ_self _, (rho [0, 1, 2, 3, 6, 7]), ⟨(rE rfl <| rX <| rX <| rX <| rX <| rX <| rX <| rX <| rX <| rV <| rN), (hE rfl <| hD <| hD <| hD <| hO rfl <| hO rfl <| hN), rfl, rfl, (roE rfl <| roE rfl <| roE rfl <| roE rfl <| roE (Q2 _ _ _) <| roE (Q2 _ _ _) <| roN)⟩⟩
    ·apply iU h <;> intro h
     ·refine Q9 ?_
      obtain ⟨hk95, h⟩ := Ur h
      obtain ⟨hk96, h⟩ := Ur h
      refine Vy [0] (r := .slice 1 6 (0 + v91.2.from'.toNat * 1) (v91.2.kept.length - v91.2.from'.toNat)) rfl rfl (fun a ha o ho => ?_) (Xd k38 ?_) ?_
      ·simp only [List.mem_cons, List.mem_nil_iff, or_false] at ha; subst ha; cases ho; rfl
      ·refine Q9 ?_
       refine U2 hk95 ?_
       refine U2 hk96 ?_
       exact ⟨rfl, [], (List.append_nil _).symm⟩
      refine Qb5 (l := v91.2.kept) (off := (0 + v91.2.from'.toNat * 1)) (n := (v91.2.kept.length - v91.2.from'.toNat)) (by have e : v91.2.kept.length = (v91.2.kept : List Int).length := (by first | (simp; done) | (simp [Z5]; done)); simp only [Bool.and_eq_true, Nat.ble_eq] at hk96; omega) ?_
      obtain ⟨hk97, h⟩ := Ur h
      refine U2 (Q2o (c := (cI .u8)) (l := (v91.2.kept : List Int)) (fun _ => rfl) (by first | (simp; done) | (simp [Z5]; done)) hk97) ?_
      refine Q5u (c := (cI .u8)) (l := (v91.2.kept : List Int)) (new := (((v91.2.kept : List Int).drop (0 + v91.2.from'.toNat * 1)).take (v91.2.kept.length - v91.2.from'.toNat))) (fun _ => rfl) ?_
      obtain ⟨hk98, h⟩ := Ur h
      refine U2 hk98 ?_
      refine Q9 ?_
      obtain rfl := Qh h
      show Exists _
      exact ⟨(rho [0, 1, 2, 6, 9]), ⟨(rF (Frz.tuple' (.cons (frz_own (c := Q6.cells) (l := (v91.2.out : List Q6)) (fun _ => rfl) rfl rfl (by first | (simp; done) | (simp [Z5]; done))) p1)) <| rN), (hC rfl (rE rfl <| rE rfl <| rL (List.length_take_of_le (l := ((((((v91.2.kept : List Int).drop (0 + v91.2.from'.toNat * 1)).take (v91.2.kept.length - v91.2.from'.toNat)).take v91.2.kept.length) ++ (v91.2.kept : List Int).drop ((((v91.2.kept : List Int).drop (0 + v91.2.from'.toNat * 1)).take (v91.2.kept.length - v91.2.from'.toNat)).take v91.2.kept.length).length) : List Int)) (by have e : v91.2.kept.length = ((((((v91.2.kept : List Int).drop (0 + v91.2.from'.toNat * 1)).take (v91.2.kept.length - v91.2.from'.toNat)).take v91.2.kept.length) ++ (v91.2.kept : List Int).drop ((((v91.2.kept : List Int).drop (0 + v91.2.from'.toNat * 1)).take (v91.2.kept.length - v91.2.from'.toNat)).take v91.2.kept.length).length) : List Int).length := (by simp <;> omega); simp only [Bool.and_eq_true, Nat.ble_eq] at hk98; omega)).symm rfl <| rE rfl <| rE rfl <| rE rfl <| rE rfl <| rE rfl <| rS <| rN) <| hD <| hD <| Qki (((((v91.2.kept : List Int).drop (0 + v91.2.from'.toNat * 1)).take (v91.2.kept.length - v91.2.from'.toNat)).take v91.2.kept.length).length) rfl <| hV lb <| hN), rfl, rfl, (roE rfl <| roE rfl <| roE rfl <| roE (Q2 _ _ _) <| roE (Q2 _ _ _) <| roN)⟩⟩
     ·refine Q9 ?_
      obtain rfl := Qh h
      show Exists _
      exact ⟨(rho [0, 1, 2, 6, 9]), ⟨(rF (Frz.tuple' (.cons (frz_own (c := Q6.cells) (l := (v91.2.out : List Q6)) (fun _ => rfl) rfl rfl (by first | (simp; done) | (simp [Z5]; done))) p1)) <| rN), (hC rfl (rE rfl <| rE rfl <| rE rfl <| rE rfl <| rE rfl <| rE rfl <| rE rfl <| rE rfl <| rS <| rN) <| hD <| hD <| hO rfl <| hV lb <| hN), rfl, rfl, (roE rfl <| roE rfl <| roE rfl <| roE (Q2 _ _ _) <| roE (Q2 _ _ _) <| roN)⟩⟩
   ·skip
    refine fnU h (fun e h => ?_) fun h => ?_
    ·subst e
     refine cG h W5 fun v100 h => ?_
     refine ⟨rho [0, 4, 5], (.cells (iI v100.2.l.MaxPacket :: iI v100.2.l.MaxDepth :: .slice 1 6 0 v100.2.kept.length :: iI v100.2.from' :: iI v100.2.at' :: iI v100.2.need :: iI v100.2.e :: .func (.func v100.2.next) [.ptr 0 0] [] :: .slice 4 7 0 v100.2.out.length :: []) :: .dead :: .dead :: .dead :: .dead :: .dead :: .cells (Zl (cI .u8) v100.2.kept) :: .cells (Zl Q6.cells v100.2.out) :: []), .p (.bool v100.1), ⟨(rE rfl <| rN), (hE rfl <| hO rfl <| hO rfl <| hN), rfl, rfl, (roE rfl <| roE (Q2 _ _ _) <| roE (Q2 _ _ _) <| roN), rfl, (fR 0 rfl rfl rfl rfl <| fD <| fD <| fD <| fD <| fD <| fO 3 rfl rfl rfl <| fO 4 rfl rfl rfl <| fN), rfl⟩, ?_⟩
     apply iU h <;> intro h
     ·show Exists _
      exact ⟨(n1, v100.2.l.MaxPacket, v100.2.l.MaxDepth, v100.2.from', v100.2.at', v100.2.need, v100.2.e, v100.2.next, v100.2.kept, v100.2.out), h, Nat.lt_succ_self _, (rho [0, 1, 2, 3, 6, 7]), ⟨(rE rfl <| rX <| rX <| rX <| rX <| rX <| rX <| rX <| rX <| rV <| rN), (hE rfl <| hD <| hD <| hD <| hO rfl <| hO rfl <| hN), rfl, rfl, (roE rfl <| roE rfl <| roE rfl <| roE rfl <| roE (Q2 _ _ _) <| roE (Q2 _ _ _) <| roN)⟩⟩
     ·apply iU h <;> intro h
      ·refine Q9 ?_
       obtain ⟨hk104, h⟩ := Ur h
       obtain ⟨hk105, h⟩ := Ur h
       refine Vy [0] (r := .slice 1 6 (0 + v100.2.from'.toNat * 1) (v100.2.kept.length - v100.2.from'.toNat)) rfl rfl (fun a ha o ho => ?_) (Xd k38 ?_) ?_
       ·simp only [List.mem_cons, List.mem_nil_iff, or_false] at ha; subst ha; cases ho; rfl
       ·refine Q9 ?_
        refine U2 hk104 ?_
        refine U2 hk105 ?_
        exact ⟨rfl, [], (List.append_nil _).symm⟩
       refine Qb5 (l := v100.2.kept) (off := (0 + v100.2.from'.toNat * 1)) (n := (v100.2.kept.length - v100.2.from'.toNat)) (by have e : v100.2.kept.length = (v100.2.kept : List Int).length := (by first | (simp; done) | (simp [Z5]; done)); simp only [Bool.and_eq_true, Nat.ble_eq] at hk105; omega) ?_
       obtain ⟨hk106, h⟩ := Ur h
       refine U2 (Q2o (c := (cI .u8)) (l := (v100.2.kept : List Int)) (fun _ => rfl) (by first | (simp; done) | (simp [Z5]; done)) hk106) ?_
       refine Q5u (c := (cI .u8)) (l := (v100.2.kept : List Int)) (new := (((v100.2.kept : List Int).drop (0 + v100.2.from'.toNat * 1)).take (v100.2.kept.length - v100.2.from'.toNat))) (fun _ => rfl) ?_
       obtain ⟨hk107, h⟩ := Ur h
       refine U2 hk107 ?_
       refine Q9 ?_
       obtain rfl := Qh h
       show Exists _
       exact ⟨(rho [0, 1, 2, 6, 9]), ⟨(rF (Frz.tuple' (.cons (frz_own (c := Q6.cells) (l := (v100.2.out : List Q6)) (fun _ => rfl) rfl rfl (by first | (simp; done) | (simp [Z5]; done))) p1)) <| rN), (hC rfl (rE rfl <| rE rfl <| rL (List.length_take_of_le (l := ((((((v100.2.kept : List Int).drop (0 + v100.2.from'.toNat * 1)).take (v100.2.kept.length - v100.2.from'.toNat)).take v100.2.kept.length) ++ (v100.2.kept : List Int).drop ((((v100.2.kept : List Int).drop (0 + v100.2.from'.toNat * 1)).take (v100.2.kept.length - v100.2.from'.toNat)).take v100.2.kept.length).length) : List Int)) (by have e : v100.2.kept.length = ((((((v100.2.kept : List Int).drop (0 + v100.2.from'.toNat * 1)).take (v100.2.kept.length - v100.2.from'.toNat)).take v100.2.kept.length) ++ (v100.2.kept : List Int).drop ((((v100.2.kept : List Int).drop (0 + v100.2.from'.toNat * 1)).take (v100.2.kept.length - v100.2.from'.toNat)).take v100.2.kept.length).length) : List Int).length := (by simp <;> omega); simp only [Bool.and_eq_true, Nat.ble_eq] at hk107; omega)).symm rfl <| rE rfl <| rE rfl <| rE rfl <| rE rfl <| rE rfl <| rS <| rN) <| hD <| hD <| Qki (((((v100.2.kept : List Int).drop (0 + v100.2.from'.toNat * 1)).take (v100.2.kept.length - v100.2.from'.toNat)).take v100.2.kept.length).length) rfl <| hV lb <| hN), rfl, rfl, (roE rfl <| roE rfl <| roE rfl <| roE (Q2 _ _ _) <| roE (Q2 _ _ _) <| roN)⟩⟩
      ·refine Q9 ?_
       obtain rfl := Qh h
       show Exists _
       exact ⟨(rho [0, 1, 2, 6, 9]), ⟨(rF (Frz.tuple' (.cons (frz_own (c := Q6.cells) (l := (v100.2.out : List Q6)) (fun _ => rfl) rfl rfl (by first | (simp; done) | (simp [Z5]; done))) p1)) <| rN), (hC rfl (rE rfl <| rE rfl <| rE rfl <| rE rfl <| rE rfl <| rE rfl <| rE rfl <| rE rfl <| rS <| rN) <| hD <| hD <| hO rfl <| hV lb <| hN), rfl, rfl, (roE rfl <| roE rfl <| roE rfl <| roE (Q2 _ _ _) <| roE (Q2 _ _ _) <| roN)⟩⟩
    ·skip
     first | (cases h; done) | (simp [Qei] at h; done)
def Zh (_N : Nat) (x : Q5) : Option ((Int) × Q5) :=
 cond (decide (0 ≤ x.from')) (cond (Nat.ble x.from'.toNat x.kept.length && Nat.ble x.kept.length x.kept.length) (some ((((x.kept.length - x.from'.toNat) : Nat) : Int), x)) none) none
theorem Yx {N} {x} {r} (h : Zh N x = some r) : GC Tryd.prog G1 19 (.ptr 0 0 :: []) (.cells (.p (.int .i64 x.l.MaxPacket) :: .p (.int .i64 x.l.MaxDepth) :: .slice 1 1 0 x.kept.length :: .p (.int .i64 x.from') :: .p (.int .i64 x.at') :: .p (.int .i64 x.need) :: .p (.int .i64 x.e) :: .func (.func x.next) [.ptr 0 0] [] :: .slice 4 2 0 x.out.length :: []) :: .cells (Zl (cI .u8) x.kept) :: .cells (Zl Q6.cells x.out) :: []) (.p (.int .i64 r.1)) (.cells (.p (.int .i64 r.2.l.MaxPacket) :: .p (.int .i64 r.2.l.MaxDepth) :: .slice 1 3 0 r.2.kept.length :: .p (.int .i64 r.2.from') :: .p (.int .i64 r.2.at') :: .p (.int .i64 r.2.need) :: .p (.int .i64 r.2.e) :: .func (.func r.2.next) [.ptr 0 0] [] :: .slice 4 4 0 r.2.out.length :: []) :: .dead :: .dead :: .cells (Zl (cI .u8) r.2.kept) :: .cells (Zl Q6.cells r.2.out) :: []) := by
 refine Gc k19 (Nat.le_of_ble_eq_true rfl) ?_
 unfold Zh at h
 refine Xd k38 ?_
 refine Q9 ?_
 refine kU h fun h => ?_
 refine kU h fun h => ?_
 obtain rfl := Qh h
 show Exists _
 exact ⟨(rho [0, 1, 2, 1, 2]), ⟨(rE rfl <| rN), (hE rfl <| hD <| hD <| hO rfl <| hO rfl <| hN), rfl, rfl, (roE rfl <| roE rfl <| roE rfl <| roE (Q2 _ _ _) <| roE (Q2 _ _ _) <| roN)⟩⟩
def Wa (_N : Nat) : Option (Qc) :=
 some (⟨4096, 6⟩ : Qc)
theorem J1 {N} {r} (h : Wa N = some r) : Xw Tryd.prog G1 21 [] (.agg (Qc.cells r)) := by
 refine Qq k21 ?_
 unfold Wa at h
 obtain rfl := Qh h; exact q2
def Yc (N : Nat) : Option (Bool) :=
 (Wa N).bind fun v1 =>
 (Y0 N [] v1).bind fun v3 =>
 cond (Qe .eql v3.2 2)
 (cond (Qe .neq v3.2 0)
 (some false)
 (some false))
 ((Qi N (⟨v1, [], 0, 0, 0, 0, 37, []⟩ : Q5) [0, 0, 0, 8]).bind fun v7 =>
 (Qi N v7.2 [2, 0, 0, 1, 0, 0, 0]).bind fun v12 =>
 cond (Qe .eql v7.1.2 0)
 (cond (Qe .eql v12.1.2 0)
 (cond (Qe .eql ((Z5 Q6.cells v7.1.1).length : Int) 0)
 (cond (Qe .eql ((Z5 Q6.cells v12.1.1).length : Int) 1)
 ((idx v12.1.1 0).bind fun y18 =>
 cond (Qe .eql y18.Channel 1)
 ((Zh N v12.2).bind fun v21 =>
 some (Qe .eql v21.1 3))
 (some false))
 (some false))
 (some false))
 (some false))
 (some false))
theorem Uq {N} {r} (h : Yc N = some r) : Xw Tryd.prog G1 16 [] (.bool r) := by
 refine Qq k16 ?_
 unfold Yc at h
 rw [cX] at h
 refine cP h J1 p0 fun v1 h => ?_
 refine Xd k17 ?_
 refine cP h Xm (.cons (.p _) (.cons q2 .nil)) fun v3 h => ?_
 apply iU h <;> intro h
 ·apply iU h <;> intro h
  ·cases h; exact (.p _)
  ·cases h; exact (.p _)
 ·refine ifF (cF (by decide)) ?_
  refine cG h Zs fun v7 h => ?_
  refine ⟨rho [1, 3, 4], (.cells (iI v1.MaxPacket :: iI v1.MaxDepth :: []) :: .cells (iI v7.2.l.MaxPacket :: iI v7.2.l.MaxDepth :: .slice 1 2 0 v7.2.kept.length :: iI v7.2.from' :: iI v7.2.at' :: iI v7.2.need :: iI v7.2.e :: .func (.func v7.2.next) [.ptr 1 0] [] :: .slice 4 3 0 v7.2.out.length :: []) :: .cells (Zl (cI .u8) v7.2.kept) :: .cells (Zl Q6.cells v7.2.out) :: []), .p (.tuple [.slice 4 (Z5 Q6.cells v7.1.1), .int .i64 v7.1.2]), ⟨(rE rfl <| rE rfl <| rN), (hC rfl (rE rfl <| rE rfl <| rS <| rE rfl <| rE rfl <| rE rfl <| rE rfl <| rE rfl <| rS <| rN) <| hV lb <| hV lb <| hN), rfl, rfl, (roE rfl <| roE (Q2 _ _ _) <| roE (Q2 _ _ _) <| roN), rfl, (fK rfl rfl <| fR 0 rfl rfl rfl rfl <| fO 3 rfl rfl rfl <| fO 4 rfl rfl rfl <| fN), rfl⟩, ?_⟩
  refine Qfv 4 0 rfl rfl rfl rfl rfl ?_
  refine cG h Zs fun v12 h => ?_
  refine ⟨rho [1, 2, 3], (.cells (iI v1.MaxPacket :: iI v1.MaxDepth :: []) :: .cells (iI v12.2.l.MaxPacket :: iI v12.2.l.MaxDepth :: .slice 1 4 0 v12.2.kept.length :: iI v12.2.from' :: iI v12.2.at' :: iI v12.2.need :: iI v12.2.e :: .func (.func v12.2.next) [.ptr 1 0] [] :: .slice 4 5 0 v12.2.out.length :: []) :: .dead :: .dead :: .cells (Zl (cI .u8) v12.2.kept) :: .cells (Zl Q6.cells v12.2.out) :: []), .p (.tuple [.slice 4 (Z5 Q6.cells v12.1.1), .int .i64 v12.1.2]), ⟨(rE rfl <| rE rfl <| rN), (hE rfl <| hO rfl <| hO rfl <| hN), rfl, rfl, (roE rfl <| roE (Q2 _ _ _) <| roE (Q2 _ _ _) <| roN), rfl, (fK rfl rfl <| fR 0 rfl rfl rfl rfl <| fD <| fD <| fO 3 rfl rfl rfl <| fO 4 rfl rfl rfl <| fN), rfl⟩, ?_⟩
  apply iU h <;> intro h
  ·apply iU h <;> intro h
   ·apply iU h <;> intro h
    ·apply iU h <;> intro h
     ·refine xR h fun y18 h => ?_
      apply iU h <;> intro h
      ·refine cG h Yx fun v21 h => ?_
       refine ⟨rho [1, 4, 5], (.cells (iI v1.MaxPacket :: iI v1.MaxDepth :: []) :: .cells (iI v21.2.l.MaxPacket :: iI v21.2.l.MaxDepth :: .slice 1 6 0 v21.2.kept.length :: iI v21.2.from' :: iI v21.2.at' :: iI v21.2.need :: iI v21.2.e :: .func (.func v21.2.next) [.ptr 1 0] [] :: .slice 4 7 0 v21.2.out.length :: []) :: .dead :: .dead :: .dead :: .dead :: .cells (Zl (cI .u8) v21.2.kept) :: .cells (Zl Q6.cells v21.2.out) :: []), iI v21.1, ⟨(rE rfl <| rN), (hE rfl <| hO rfl <| hO rfl <| hN), rfl, rfl, (roE rfl <| roE (Q2 _ _ _) <| roE (Q2 _ _ _) <| roN), rfl, (fK rfl rfl <| fR 0 rfl rfl rfl rfl <| fD <| fD <| fD <| fD <| fO 3 rfl rfl rfl <| fO 4 rfl rfl rfl <| fN), rfl⟩, ?_⟩
       cases h; exact (.p _)
      ·cases h; exact (.p _)
     ·cases h; exact (.p _)
    ·cases h; exact (.p _)
   ·cases h; exact (.p _)
  ·cases h; exact (.p _)
def Zy (_N : Nat) (x : Q5) : Option ((Int) × Q5) :=
 some (x.at', x)
theorem Wi {N} {x} {r} (h : Zy N x = some r) : GC Tryd.prog G1 20 (.ptr 0 0 :: []) (.cells (.p (.int .i64 x.l.MaxPacket) :: .p (.int .i64 x.l.MaxDepth) :: .slice 1 1 0 x.kept.length :: .p (.int .i64 x.from') :: .p (.int .i64 x.at') :: .p (.int .i64 x.need) :: .p (.int .i64 x.e) :: .func (.func x.next) [.ptr 0 0] [] :: .slice 4 2 0 x.out.length :: []) :: .cells (Zl (cI .u8) x.kept) :: .cells (Zl Q6.cells x.out) :: []) (.p (.int .i64 r.1)) (.cells (.p (.int .i64 r.2.l.MaxPacket) :: .p (.int .i64 r.2.l.MaxDepth) :: .slice 1 3 0 r.2.kept.length :: .p (.int .i64 r.2.from') :: .p (.int .i64 r.2.at') :: .p (.int .i64 r.2.need) :: .p (.int .i64 r.2.e) :: .func (.func r.2.next) [.ptr 0 0] [] :: .slice 4 4 0 r.2.out.length :: []) :: .dead :: .dead :: .cells (Zl (cI .u8) r.2.kept) :: .cells (Zl Q6.cells r.2.out) :: []) := by
 refine Gc k20 (Nat.le_of_ble_eq_true rfl) ?_
 unfold Zy at h
 obtain rfl := Qh h
 show Exists _
 exact ⟨(rho [0, 1, 2, 1, 2]), ⟨(rE rfl <| rN), (hE rfl <| hD <| hD <| hO rfl <| hO rfl <| hN), rfl, rfl, (roE rfl <| roE rfl <| roE rfl <| roE (Q2 _ _ _) <| roE (Q2 _ _ _) <| roN)⟩⟩
def Zp (N : Nat) (head : Int) : Nat → (List UInt8) → Int → Option (Bool)
 | 0, _, _ => none
 | n + 1, s16, i17 =>
  cond (Qe .lss i17 8)
  (cond (decide (0 ≤ (IntKind.wrap .u64 (IntKind.wrap .i64 (56 - (IntKind.wrap .i64 (8 * i17))))))) (cond (Nat.ble (s16.length + [UInt8.ofNat (IntKind.wrap .u8 (U7 .u64 head (IntKind.wrap .u64 (IntKind.wrap .i64 (56 - (IntKind.wrap .i64 (8 * i17))))))).toNat].length) 4611686018427387904) (Zp N head n (s16 ++ [UInt8.ofNat (IntKind.wrap .u8 (U7 .u64 head (IntKind.wrap .u64 (IntKind.wrap .i64 (56 - (IntKind.wrap .i64 (8 * i17))))))).toNat]) (IntKind.wrap .i64 (i17 + 1))) none) none)
  (cond (Nat.ble 0 7 && Nat.ble 7 s16.length) (some false) none)
def Qf (N : Nat) (head : Int) (more : List UInt8) (s29 : List UInt8) (c70 : Int) (c71 : Int) (c72 : Int) (c73 : Int) (c74 : Int) (c75 : Int) (q76 : Nat) (l77 : List Int) (l78 : List Q6) (bad95 : Int) : Option (Bool) :=
 cond (Nat.ble 7 s29.length && Nat.ble s29.length s29.length) ((Qi N (⟨(⟨c70, c71⟩ : Qc), l77, c72, c73, c74, c75, q76, l78⟩ : Q5) ((s29.take s29.length).drop 7)).bind fun v105 =>
 cond (Qe .neq bad95 0)
 ((Qi N v105.2 more).bind fun v108 =>
 cond (Qe .eql ((Z5 Q6.cells v105.1.1).length : Int) 0)
 (cond (Qe .eql v105.1.2 bad95)
 ((Zh N v108.2).bind fun v112 =>
 cond (Qe .eql v112.1 0)
 (cond (Qe .eql ((Z5 Q6.cells v108.1.1).length : Int) 0)
 (cond (Qe .eql v108.1.2 bad95)
 ((Zy N v112.2).bind fun v117 =>
 some (Qe .eql v117.1 0))
 (some false))
 (some false))
 (some false))
 (some false))
 (some false))
 (cond (Qe .eql v105.1.2 0)
 (cond ((Qe .eql ((Z5 Q6.cells v105.1.1).length : Int) 1) == (Qe .eql (U7 .u64 head 32) 8))
 (some (Qe .leq ((Z5 Q6.cells v105.1.1).length : Int) 1))
 (some false))
 (some false))) none
def Z2 (_N : Nat) (k3 : Int → Option (Bool)) (head : Int) (s99 : Bool) : Option (Bool) :=
 cond s99
 (k3 5)
 (cond (Qe .gtr (Q4q .u64 (U7 .u64 head 16) 255) 1)
 (k3 8)
 (k3 0))
def Ql (N : Nat) (head : Int) (more : List UInt8) (l : Qc) (s29 : List UInt8) (s69 : Bool) (c70 : Int) (c71 : Int) (c72 : Int) (c73 : Int) (c74 : Int) (c75 : Int) (q76 : Nat) (l77 : List Int) (l78 : List Q6) : Option (Bool) :=
 cond s69
 (some false)
 (cond (Qe .gtr (U7 .u64 head 32) (IntKind.wrap .u64 l.MaxPacket))
 (Qf N head more s29 c70 c71 c72 c73 c74 c75 q76 l77 l78 4)
 (cond (Qe .lss (U7 .u64 head 32) 8)
 (Z2 N (Qf N head more s29 c70 c71 c72 c73 c74 c75 q76 l77 l78) head true)
 (cond (Qe .lss (Q4q .u64 (U7 .u64 head 24) 255) 2)
 (Z2 N (Qf N head more s29 c70 c71 c72 c73 c74 c75 q76 l77 l78) head true)
 (Z2 N (Qf N head more s29 c70 c71 c72 c73 c74 c75 q76 l77 l78) head (Qe .gtr (IntKind.wrap .u64 (4 * (Q4q .u64 (U7 .u64 head 24) 255))) (U7 .u64 head 32))))))
def Z1 (N : Nat) (head : Int) (more : List UInt8) (l : Qc) : Nat → (List UInt8) → Int → Option (Bool)
 | 0, _, _ => none
 | n + 1, s29, i30 =>
  cond (Qe .lss i30 8)
  (cond (decide (0 ≤ (IntKind.wrap .u64 (IntKind.wrap .i64 (56 - (IntKind.wrap .i64 (8 * i30))))))) (cond (Nat.ble (s29.length + [UInt8.ofNat (IntKind.wrap .u8 (U7 .u64 head (IntKind.wrap .u64 (IntKind.wrap .i64 (56 - (IntKind.wrap .i64 (8 * i30))))))).toNat].length) 4611686018427387904) (Z1 N head more l n (s29 ++ [UInt8.ofNat (IntKind.wrap .u8 (U7 .u64 head (IntKind.wrap .u64 (IntKind.wrap .i64 (56 - (IntKind.wrap .i64 (8 * i30))))))).toNat]) (IntKind.wrap .i64 (i30 + 1))) none) none)
  (cond (Nat.ble 0 7 && Nat.ble 7 s29.length) ((Qi N (⟨l, [], 0, 0, 0, 0, 37, []⟩ : Q5) ((s29.take 7).drop 0)).bind fun v35 =>
  cond (Qe .neq ((Z5 Q6.cells v35.1.1).length : Int) 0)
  (Ql N head more l s29 true v35.2.l.MaxPacket v35.2.l.MaxDepth v35.2.from' v35.2.at' v35.2.need v35.2.e v35.2.next v35.2.kept v35.2.out)
  (cond (Qe .neq v35.1.2 0)
  (Ql N head more l s29 true v35.2.l.MaxPacket v35.2.l.MaxDepth v35.2.from' v35.2.at' v35.2.need v35.2.e v35.2.next v35.2.kept v35.2.out)
  ((Zh N v35.2).bind fun v81 =>
  cond (Qe .neq v81.1 7)
  (Ql N head more l s29 true v81.2.l.MaxPacket v81.2.l.MaxDepth v81.2.from' v81.2.at' v81.2.need v81.2.e v81.2.next v81.2.kept v81.2.out)
  ((Zy N v81.2).bind fun v84 =>
  Ql N head more l s29 (Qe .neq v84.1 0) v84.2.l.MaxPacket v84.2.l.MaxDepth v84.2.from' v84.2.at' v84.2.need v84.2.e v84.2.next v84.2.kept v84.2.out)))) none)
def Zm (N : Nat) (head : Int) (more : List UInt8) (l : Qc) : Option (Bool) :=
 (Yc N).bind fun v1 =>
 cond (!v1)
 (some false)
 (cond (Qe .gtr (more.length : Int) 200)
 (some true)
 ((Y0 N [] l).bind fun v5 =>
 cond (Qe .eql v5.2 2)
 (cond (Qe .neq v5.2 0)
 (some true)
 (Zp N head N [] 0))
 (Z1 N head more l N [] 0)))
theorem Wv {N} {head} {more} {l} {r} (h : Zm N head more l = some r) : Xw Tryd.prog G1 4 [.int .u64 head, .str more, .agg (Qc.cells l)] (.bool r) := by
 refine Qq k4 ?_
 unfold Zm at h
 rw [cX] at h
 refine cP h Uq p0 fun v1 h => ?_
 apply iU h <;> intro h
 ·cases h; exact (.p _)
 ·apply iU h <;> intro h
  ·cases h; exact (.p _)
  ·refine Xd k17 ?_
   refine cP h Xm (.cons (.p _) (.cons q2 .nil)) fun v5 h => ?_
   apply iU h <;> intro h
   ·apply iU h <;> intro h
    ·cases h; exact (.p _)
    ·refine lpC (τ := (List UInt8) × Int) (fun ⟨s16, i17⟩ => (iW head :: iS more :: a2 (.any :: .ptr 0 0 :: .any :: .p .nilPtr :: .any :: iS s16 :: iI i17 :: a16 (a16 (a16 (a16 (a16 (a16 (a16 (a16 (a16 (a2 (.any :: []))))))))))) : List AV)) (fun ⟨_, _⟩ => (.cells (iI l.MaxPacket :: iI l.MaxDepth :: []) :: .cells (iI l.MaxPacket :: iI l.MaxDepth :: []) :: [] : List AObj)) (fun n0 ⟨s16, i17⟩ => Zp N head n0 s16 i17) ([], 0) h (fun i => i) ⟨(rE rfl <| rE rfl <| rW <| rA <| rE rfl <| rA <| rE rfl <| rA <| rE rfl <| rE rfl <| rX <| rX <| rX <| rX <| rX <| rX <| rX <| rX <| rX <| rX <| rX <| rX <| rX <| rX <| rX <| rX <| rX <| rX <| rW <| rA <| rN), (hE rfl <| hE rfl <| hN), rfl, rfl, (roE rfl <| roE rfl <| roN)⟩ fun n0 ⟨s16, i17⟩ h => ?_
     simp only [Zp] at h
     rw [cX] at h
     apply iU h <;> intro h
     ·refine kU h fun h => ?_
      refine kU h fun h => ?_
      show Exists _
      exact ⟨(n0, (s16 ++ [UInt8.ofNat (IntKind.wrap .u8 (U7 .u64 head (IntKind.wrap .u64 (IntKind.wrap .i64 (56 - (IntKind.wrap .i64 (8 * i17))))))).toNat]), (IntKind.wrap .i64 (i17 + 1))), h, Nat.lt_succ_self _, (fun i => i), ⟨(rE rfl <| rE rfl <| rW <| rA <| rE rfl <| rA <| rE rfl <| rA <| rE rfl <| rE rfl <| rX <| rX <| rX <| rX <| rX <| rX <| rX <| rX <| rX <| rX <| rX <| rX <| rX <| rX <| rX <| rX <| rX <| rX <| rW <| rA <| rN), (hE rfl <| hE rfl <| hN), rfl, rfl, (roE rfl <| roE rfl <| roN)⟩⟩
     ·refine kU h fun h => ?_
      refine Xd k18 ?_
      refine Q2v ?_
      refine Q2v ?_
      refine ifF (cF (by decide)) ?_
      refine ifT (cF (by decide)) ?_
      cases h; exact (.p _)
   ·refine ifF (cF (by decide)) ?_
    refine lpC (τ := (List UInt8) × Int) (fun ⟨s29, i30⟩ => (iW head :: iS more :: a2 (.any :: .ptr 0 0 :: .any :: .ptr 2 0 :: .any :: iS s29 :: iI i30 :: a16 (a16 (a16 (a16 (a16 (a16 (a16 (a16 (a16 (a2 (.any :: []))))))))))) : List AV)) (fun ⟨_, _⟩ => (.cells (iI l.MaxPacket :: iI l.MaxDepth :: []) :: .cells (iI l.MaxPacket :: iI l.MaxDepth :: []) :: .cells (iI l.MaxPacket :: iI l.MaxDepth :: .p .nilSlice :: iI 0 :: iI 0 :: iI 0 :: iI 0 :: .func (.func 37) [.ptr 2 0] [] :: .p .nilSlice :: []) :: [] : List AObj)) (fun n1 ⟨s29, i30⟩ => Z1 N head more l n1 s29 i30) ([], 0) h (fun i => i) ⟨(rE rfl <| rE rfl <| rW <| rA <| rE rfl <| rA <| rE rfl <| rA <| rE rfl <| rE rfl <| rX <| rX <| rX <| rX <| rX <| rX <| rX <| rX <| rX <| rX <| rX <| rX <| rX <| rX <| rX <| rX <| rX <| rX <| rW <| rA <| rN), (hE rfl <| hE rfl <| hE rfl <| hN), rfl, rfl, (roE rfl <| roE rfl <| roE rfl <| roN)⟩ fun n1 ⟨s29, i30⟩ h => ?_
    simp only [Z1] at h
    rw [cX] at h
    apply iU h <;> intro h
    ·refine kU h fun h => ?_
     refine kU h fun h => ?_
     show Exists _
     exact ⟨(n1, (s29 ++ [UInt8.ofNat (IntKind.wrap .u8 (U7 .u64 head (IntKind.wrap .u64 (IntKind.wrap .i64 (56 - (IntKind.wrap .i64 (8 * i30))))))).toNat]), (IntKind.wrap .i64 (i30 + 1))), h, Nat.lt_succ_self _, (fun i => i), ⟨(rE rfl <| rE rfl <| rW <| rA <| rE rfl <| rA <| rE rfl <| rA <| rE rfl <| rE rfl <| rX <| rX <| rX <| rX <| rX <| rX <| rX <| rX <| rX <| rX <| rX <| rX <| rX <| rX <| rX <| rX <| rX <| rX <| rW <| rA <| rN), (hE rfl <| hE rfl <| hE rfl <| hN), rfl, rfl, (roE rfl <| roE rfl <| roE rfl <| roN)⟩⟩
    ·refine kU h fun h => ?_
     refine cG h Zs fun v35 h => ?_
     refine ⟨rho [2, 4, 5], (.cells (iI l.MaxPacket :: iI l.MaxDepth :: []) :: .cells (iI l.MaxPacket :: iI l.MaxDepth :: []) :: .cells (iI v35.2.l.MaxPacket :: iI v35.2.l.MaxDepth :: .slice 1 3 0 v35.2.kept.length :: iI v35.2.from' :: iI v35.2.at' :: iI v35.2.need :: iI v35.2.e :: .func (.func v35.2.next) [.ptr 2 0] [] :: .slice 4 4 0 v35.2.out.length :: []) :: .cells (Zl (cI .u8) v35.2.kept) :: .cells (Zl Q6.cells v35.2.out) :: []), .p (.tuple [.slice 4 (Z5 Q6.cells v35.1.1), .int .i64 v35.1.2]), ⟨(rE rfl <| rE rfl <| rN), (hC rfl (rE rfl <| rE rfl <| rS <| rE rfl <| rE rfl <| rE rfl <| rE rfl <| rE rfl <| rS <| rN) <| hV lb <| hV lb <| hN), rfl, rfl, (roE rfl <| roE (Q2 _ _ _) <| roE (Q2 _ _ _) <| roN), rfl, (fK rfl rfl <| fK rfl rfl <| fR 0 rfl rfl rfl rfl <| fO 3 rfl rfl rfl <| fO 4 rfl rfl rfl <| fN), rfl⟩, ?_⟩
     refine Q2v ?_
     refine Q40 (σ := Bool × Int × Int × Int × Int × Int × Int × Nat × (List Int) × (List Q6)) (fun ⟨s69, _, _, _, _, _, _, _, _, _⟩ => (iW head :: iS more :: a2 (.any :: .ptr 0 0 :: .any :: .ptr 2 0 :: .any :: iS s29 :: a16 (a16 (a16 (a8 (a4 (.p (.bool s69) :: a16 (a16 (a16 (a16 (a16 (a4 (a2 (.any :: []))))))))))))) : List AV)) (fun ⟨_, c70, c71, c72, c73, c74, c75, q76, l77, l78⟩ => (.cells (iI l.MaxPacket :: iI l.MaxDepth :: []) :: .cells (iI l.MaxPacket :: iI l.MaxDepth :: []) :: .cells (iI c70 :: iI c71 :: .slice 1 5 0 l77.length :: iI c72 :: iI c73 :: iI c74 :: iI c75 :: .func (.func q76) [.ptr 2 0] [] :: .slice 4 6 0 l78.length :: []) :: .dead :: .dead :: .cells (Zl (cI .u8) l77) :: .cells (Zl Q6.cells l78) :: [] : List AObj)) (fun ⟨s69, c70, c71, c72, c73, c74, c75, q76, l77, l78⟩ => Ql N head more l s29 s69 c70 c71 c72 c73 c74 c75 q76 l77 l78 = some r) (fun _ _ => lb) ?_ ?_
     ·apply iU h <;> intro h
      ·show Exists _
       exact ⟨(true, v35.2.l.MaxPacket, v35.2.l.MaxDepth, v35.2.from', v35.2.at', v35.2.need, v35.2.e, v35.2.next, v35.2.kept, v35.2.out), h, (rho [0, 1, 2, 3, 4, 3, 4]), ⟨(rE rfl <| rE rfl <| rW <| rA <| rE rfl <| rA <| rE rfl <| rA <| rE rfl <| rX <| rX <| rX <| rX <| rX <| rX <| rX <| rV <| rE rfl <| rX <| rX <| rX <| rX <| rX <| rX <| rX <| rX <| rX <| rX <| rV <| rW <| rA <| rN), (hE rfl <| hE rfl <| hE rfl <| hD <| hD <| hO rfl <| hO rfl <| hN), rfl, rfl, (roE rfl <| roE rfl <| roE rfl <| roE rfl <| roE rfl <| roE (Q2 _ _ _) <| roE (Q2 _ _ _) <| roN)⟩⟩
      ·apply iU h <;> intro h
       ·show Exists _
        exact ⟨(true, v35.2.l.MaxPacket, v35.2.l.MaxDepth, v35.2.from', v35.2.at', v35.2.need, v35.2.e, v35.2.next, v35.2.kept, v35.2.out), h, (rho [0, 1, 2, 3, 4, 3, 4]), ⟨(rE rfl <| rE rfl <| rW <| rA <| rE rfl <| rA <| rE rfl <| rA <| rE rfl <| rX <| rX <| rX <| rX <| rX <| rX <| rX <| rV <| rE rfl <| rX <| rX <| rX <| rX <| rX <| rX <| rX <| rX <| rX <| rX <| rV <| rW <| rA <| rN), (hE rfl <| hE rfl <| hE rfl <| hD <| hD <| hO rfl <| hO rfl <| hN), rfl, rfl, (roE rfl <| roE rfl <| roE rfl <| roE rfl <| roE rfl <| roE (Q2 _ _ _) <| roE (Q2 _ _ _) <| roN)⟩⟩
       ·refine cG h Yx fun v81 h => ?_
        refine ⟨rho [2, 3, 4], (.cells (iI l.MaxPacket :: iI l.MaxDepth :: []) :: .cells (iI l.MaxPacket :: iI l.MaxDepth :: []) :: .cells (iI v81.2.l.MaxPacket :: iI v81.2.l.MaxDepth :: .slice 1 5 0 v81.2.kept.length :: iI v81.2.from' :: iI v81.2.at' :: iI v81.2.need :: iI v81.2.e :: .func (.func v81.2.next) [.ptr 2 0] [] :: .slice 4 6 0 v81.2.out.length :: []) :: .dead :: .dead :: .cells (Zl (cI .u8) v81.2.kept) :: .cells (Zl Q6.cells v81.2.out) :: []), iI v81.1, ⟨(rE rfl <| rN), (hE rfl <| hO rfl <| hO rfl <| hN), rfl, rfl, (roE rfl <| roE (Q2 _ _ _) <| roE (Q2 _ _ _) <| roN), rfl, (fK rfl rfl <| fK rfl rfl <| fR 0 rfl rfl rfl rfl <| fD <| fD <| fO 3 rfl rfl rfl <| fO 4 rfl rfl rfl <| fN), rfl⟩, ?_⟩
        apply iU h <;> intro h
        ·show Exists _
         exact ⟨(true, v81.2.l.MaxPacket, v81.2.l.MaxDepth, v81.2.from', v81.2.at', v81.2.need, v81.2.e, v81.2.next, v81.2.kept, v81.2.out), h, (fun i => i), ⟨(rE rfl <| rE rfl <| rW <| rA <| rE rfl <| rA <| rE rfl <| rA <| rE rfl <| rX <| rX <| rX <| rX <| rX <| rX <| rX <| rV <| rE rfl <| rX <| rX <| rX <| rX <| rX <| rX <| rX <| rX <| rX <| rX <| rV <| rW <| rA <| rN), (hE rfl <| hE rfl <| hE rfl <| hD <| hD <| hO rfl <| hO rfl <| hN), rfl, rfl, (roE rfl <| roE rfl <| roE rfl <| roE rfl <| roE rfl <| roE (Q2 _ _ _) <| roE (Q2 _ _ _) <| roN)⟩⟩
        ·refine cG h Wi fun v84 h => ?_
         refine ⟨rho [2, 5, 6], (.cells (iI l.MaxPacket :: iI l.MaxDepth :: []) :: .cells (iI l.MaxPacket :: iI l.MaxDepth :: []) :: .cells (iI v84.2.l.MaxPacket :: iI v84.2.l.MaxDepth :: .slice 1 7 0 v84.2.kept.length :: iI v84.2.from' :: iI v84.2.at' :: iI v84.2.need :: iI v84.2.e :: .func (.func v84.2.next) [.ptr 2 0] [] :: .slice 4 8 0 v84.2.out.length :: []) :: .dead :: .dead :: .dead :: .dead :: .cells (Zl (cI .u8) v84.2.kept) :: .cells (Zl Q6.cells v84.2.out) :: []), iI v84.1, ⟨(rE rfl <| rN), (hE rfl <| hO rfl <| hO rfl <| hN), rfl, rfl, (roE rfl <| roE (Q2 _ _ _) <| roE (Q2 _ _ _) <| roN), rfl, (fK rfl rfl <| fK rfl rfl <| fR 0 rfl rfl rfl rfl <| fD <| fD <| fD <| fD <| fO 3 rfl rfl rfl <| fO 4 rfl rfl rfl <| fN), rfl⟩, ?_⟩
         show Exists _
         exact ⟨((Qk4 .neq v84.1 0), v84.2.l.MaxPacket, v84.2.l.MaxDepth, v84.2.from', v84.2.at', v84.2.need, v84.2.e, v84.2.next, v84.2.kept, v84.2.out), h, (rho [0, 1, 2, 3, 4, 7, 8]), ⟨(rE rfl <| rE rfl <| rW <| rA <| rE rfl <| rA <| rE rfl <| rA <| rE rfl <| rX <| rX <| rX <| rX <| rX <| rX <| rX <| rV <| rE rfl <| rX <| rX <| rX <| rX <| rX <| rX <| rX <| rX <| rX <| rX <| rV <| rW <| rA <| rN), (hE rfl <| hE rfl <| hE rfl <| hD <| hD <| hO rfl <| hO rfl <| hN), rfl, rfl, (roE rfl <| roE rfl <| roE rfl <| roE rfl <| roE rfl <| roE (Q2 _ _ _) <| roE (Q2 _ _ _) <| roN)⟩⟩
     rintro ⟨s69, c70, c71, c72, c73, c74, c75, q76, l77, l78⟩ h
     dsimp only [Ql] at h
     rw [cX] at h
     apply iU h <;> intro h
     ·cases h; exact (.p _)
     ·refine Q40 (σ := Int) (fun bad95 => (.any :: iS more :: a4 (.any :: .ptr 2 0 :: .any :: iS s29 :: a2 (.any :: iW (U7 .u64 head 32) :: iI bad95 :: a16 (a16 (a16 (a16 (a16 (a16 (a16 (a16 (a8 (a4 (a2 (.any :: []))))))))))))) : List AV)) (fun _ => (.cells (iI l.MaxPacket :: iI l.MaxDepth :: []) :: .cells (iI l.MaxPacket :: iI l.MaxDepth :: []) :: .cells (iI c70 :: iI c71 :: .slice 1 5 0 l77.length :: iI c72 :: iI c73 :: iI c74 :: iI c75 :: .func (.func q76) [.ptr 2 0] [] :: .slice 4 6 0 l78.length :: []) :: .dead :: .dead :: .cells (Zl (cI .u8) l77) :: .cells (Zl Q6.cells l78) :: [] : List AObj)) (fun bad95 => Qf N head more s29 c70 c71 c72 c73 c74 c75 q76 l77 l78 bad95 = some r) (fun _ _ => lb) ?_ ?_
      ·apply iU h <;> intro h
       ·show Exists _
        exact ⟨(4), h, (fun i => i), ⟨(rA <| rE rfl <| rV <| rA <| rE rfl <| rA <| rE rfl <| rW <| rA <| rE rfl <| rE rfl <| rX <| rX <| rX <| rX <| rX <| rX <| rX <| rX <| rX <| rX <| rX <| rX <| rX <| rX <| rX <| rX <| rX <| rV <| rW <| rA <| rN), (hE rfl <| hE rfl <| hE rfl <| hD <| hD <| hO rfl <| hO rfl <| hN), rfl, rfl, (roE rfl <| roE rfl <| roE rfl <| roE rfl <| roE rfl <| roE (Q2 _ _ _) <| roE (Q2 _ _ _) <| roN)⟩⟩
       ·refine Q40 (σ := Bool) (fun s99 => (iW head :: iS more :: a4 (.any :: .ptr 2 0 :: .any :: iS s29 :: a2 (.any :: iW (U7 .u64 head 32) :: iI 0 :: a16 (a16 (a16 (a16 (a2 (.any :: .p (.bool s99) :: a16 (a16 (a16 (a16 (a8 (a2 (.any :: []))))))))))))) : List AV)) (fun _ => (.cells (iI l.MaxPacket :: iI l.MaxDepth :: []) :: .cells (iI l.MaxPacket :: iI l.MaxDepth :: []) :: .cells (iI c70 :: iI c71 :: .slice 1 5 0 l77.length :: iI c72 :: iI c73 :: iI c74 :: iI c75 :: .func (.func q76) [.ptr 2 0] [] :: .slice 4 6 0 l78.length :: []) :: .dead :: .dead :: .cells (Zl (cI .u8) l77) :: .cells (Zl Q6.cells l78) :: [] : List AObj)) (fun s99 => Z2 N (Qf N head more s29 c70 c71 c72 c73 c74 c75 q76 l77 l78) head s99 = some r) (fun _ _ => lb) ?_ ?_
        ·apply iU h <;> intro h
         ·show Exists _
          exact ⟨(true), h, (fun i => i), ⟨(rE rfl <| rE rfl <| rV <| rA <| rE rfl <| rA <| rE rfl <| rW <| rA <| rE rfl <| rE rfl <| rX <| rX <| rX <| rX <| rX <| rX <| rX <| rX <| rW <| rA <| rE rfl <| rX <| rX <| rX <| rX <| rX <| rX <| rX <| rX <| rX <| rW <| rA <| rN), (hE rfl <| hE rfl <| hE rfl <| hD <| hD <| hO rfl <| hO rfl <| hN), rfl, rfl, (roE rfl <| roE rfl <| roE rfl <| roE rfl <| roE rfl <| roE (Q2 _ _ _) <| roE (Q2 _ _ _) <| roN)⟩⟩
         ·apply iU h <;> intro h
          ·show Exists _
           exact ⟨(true), h, (fun i => i), ⟨(rE rfl <| rE rfl <| rV <| rA <| rE rfl <| rA <| rE rfl <| rW <| rA <| rE rfl <| rE rfl <| rX <| rX <| rX <| rX <| rX <| rX <| rX <| rX <| rW <| rA <| rE rfl <| rX <| rX <| rX <| rX <| rX <| rX <| rX <| rX <| rX <| rW <| rA <| rN), (hE rfl <| hE rfl <| hE rfl <| hD <| hD <| hO rfl <| hO rfl <| hN), rfl, rfl, (roE rfl <| roE rfl <| roE rfl <| roE rfl <| roE rfl <| roE (Q2 _ _ _) <| roE (Q2 _ _ _) <| roN)⟩⟩
          ·show Exists _
           exact ⟨((Qk4 .gtr (IntKind.wrap .u64 (4 * (Q4q .u64 (U7 .u64 head 24) 255))) (U7 .u64 head 32))), h, (fun i => i), ⟨(rE rfl <| rE rfl <| rV <| rA <| rE rfl <| rA <| rE rfl <| rW <| rA <| rE rfl <| rE rfl <| rX <| rX <| rX <| rX <| rX <| rX <| rX <| rX <| rW <| rA <| rE rfl <| rX <| rX <| rX <| rX <| rX <| rX <| rX <| rX <| rX <| rW <| rA <| rN), (hE rfl <| hE rfl <| hE rfl <| hD <| hD <| hO rfl <| hO rfl <| hN), rfl, rfl, (roE rfl <| roE rfl <| roE rfl <| roE rfl <| roE rfl <| roE (Q2 _ _ _) <| roE (Q2 _ _ _) <| roN)⟩⟩
        rintro s99 h
        dsimp only [Z2] at h
        rw [cX] at h
        apply iU h <;> intro h
        ·show Exists _
         exact ⟨(5), h, (fun i => i), ⟨(rA <| rE rfl <| rV <| rA <| rE rfl <| rA <| rE rfl <| rW <| rA <| rE rfl <| rE rfl <| rX <| rX <| rX <| rX <| rX <| rX <| rX <| rX <| rX <| rX <| rX <| rX <| rX <| rX <| rX <| rX <| rX <| rV <| rW <| rA <| rN), (hE rfl <| hE rfl <| hE rfl <| hD <| hD <| hO rfl <| hO rfl <| hN), rfl, rfl, (roE rfl <| roE rfl <| roE rfl <| roE rfl <| roE rfl <| roE (Q2 _ _ _) <| roE (Q2 _ _ _) <| roN)⟩⟩
        ·apply iU h <;> intro h
         ·show Exists _
          exact ⟨(8), h, (fun i => i), ⟨(rA <| rE rfl <| rV <| rA <| rE rfl <| rA <| rE rfl <| rW <| rA <| rE rfl <| rE rfl <| rX <| rX <| rX <| rX <| rX <| rX <| rX <| rX <| rX <| rX <| rX <| rX <| rX <| rX <| rX <| rX <| rX <| rV <| rW <| rA <| rN), (hE rfl <| hE rfl <| hE rfl <| hD <| hD <| hO rfl <| hO rfl <| hN), rfl, rfl, (roE rfl <| roE rfl <| roE rfl <| roE rfl <| roE rfl <| roE (Q2 _ _ _) <| roE (Q2 _ _ _) <| roN)⟩⟩
         ·show Exists _
          exact ⟨(0), h, (fun i => i), ⟨(rA <| rE rfl <| rV <| rA <| rE rfl <| rA <| rE rfl <| rW <| rA <| rE rfl <| rE rfl <| rX <| rX <| rX <| rX <| rX <| rX <| rX <| rX <| rX <| rX <| rX <| rX <| rX <| rX <| rX <| rX <| rX <| rV <| rW <| rA <| rN), (hE rfl <| hE rfl <| hE rfl <| hD <| hD <| hO rfl <| hO rfl <| hN), rfl, rfl, (roE rfl <| roE rfl <| roE rfl <| roE rfl <| roE rfl <| roE (Q2 _ _ _) <| roE (Q2 _ _ _) <| roN)⟩⟩
      rintro bad95 h
      dsimp only [Qf] at h
      rw [cX] at h
      refine kU h fun h => ?_
      refine cG h Zs fun v105 h => ?_
      refine ⟨rho [2, 5, 6], (.cells (iI l.MaxPacket :: iI l.MaxDepth :: []) :: .cells (iI l.MaxPacket :: iI l.MaxDepth :: []) :: .cells (iI v105.2.l.MaxPacket :: iI v105.2.l.MaxDepth :: .slice 1 7 0 v105.2.kept.length :: iI v105.2.from' :: iI v105.2.at' :: iI v105.2.need :: iI v105.2.e :: .func (.func v105.2.next) [.ptr 2 0] [] :: .slice 4 8 0 v105.2.out.length :: []) :: .dead :: .dead :: .dead :: .dead :: .cells (Zl (cI .u8) v105.2.kept) :: .cells (Zl Q6.cells v105.2.out) :: []), .p (.tuple [.slice 4 (Z5 Q6.cells v105.1.1), .int .i64 v105.1.2]), ⟨(rE rfl <| rE rfl <| rN), (hE rfl <| hO rfl <| hO rfl <| hN), rfl, rfl, (roE rfl <| roE (Q2 _ _ _) <| roE (Q2 _ _ _) <| roN), rfl, (fK rfl rfl <| fK rfl rfl <| fR 0 rfl rfl rfl rfl <| fD <| fD <| fD <| fD <| fO 3 rfl rfl rfl <| fO 4 rfl rfl rfl <| fN), rfl⟩, ?_⟩
      apply iU h <;> intro h
      ·refine cG h Zs fun v108 h => ?_
       refine ⟨rho [2, 7, 8], (.cells (iI l.MaxPacket :: iI l.MaxDepth :: []) :: .cells (iI l.MaxPacket :: iI l.MaxDepth :: []) :: .cells (iI v108.2.l.MaxPacket :: iI v108.2.l.MaxDepth :: .slice 1 9 0 v108.2.kept.length :: iI v108.2.from' :: iI v108.2.at' :: iI v108.2.need :: iI v108.2.e :: .func (.func v108.2.next) [.ptr 2 0] [] :: .slice 4 10 0 v108.2.out.length :: []) :: .dead :: .dead :: .dead :: .dead :: .dead :: .dead :: .cells (Zl (cI .u8) v108.2.kept) :: .cells (Zl Q6.cells v108.2.out) :: []), .p (.tuple [.slice 4 (Z5 Q6.cells v108.1.1), .int .i64 v108.1.2]), ⟨(rE rfl <| rE rfl <| rN), (hE rfl <| hO rfl <| hO rfl <| hN), rfl, rfl, (roE rfl <| roE (Q2 _ _ _) <| roE (Q2 _ _ _) <| roN), rfl, (fK rfl rfl <| fK rfl rfl <| fR 0 rfl rfl rfl rfl <| fD <| fD <| fD <| fD <| fD <| fD <| fO 3 rfl rfl rfl <| fO 4 rfl rfl rfl <| fN), rfl⟩, ?_⟩
       apply iU h <;> intro h
       ·apply iU h <;> intro h
        ·refine cG h Yx fun v112 h => ?_
         refine ⟨rho [2, 9, 10], (.cells (iI l.MaxPacket :: iI l.MaxDepth :: []) :: .cells (iI l.MaxPacket :: iI l.MaxDepth :: []) :: .cells (iI v112.2.l.MaxPacket :: iI v112.2.l.MaxDepth :: .slice 1 11 0 v112.2.kept.length :: iI v112.2.from' :: iI v112.2.at' :: iI v112.2.need :: iI v112.2.e :: .func (.func v112.2.next) [.ptr 2 0] [] :: .slice 4 12 0 v112.2.out.length :: []) :: .dead :: .dead :: .dead :: .dead :: .dead :: .dead :: .dead :: .dead :: .cells (Zl (cI .u8) v112.2.kept) :: .cells (Zl Q6.cells v112.2.out) :: []), iI v112.1, ⟨(rE rfl <| rN), (hE rfl <| hO rfl <| hO rfl <| hN), rfl, rfl, (roE rfl <| roE (Q2 _ _ _) <| roE (Q2 _ _ _) <| roN), rfl, (fK rfl rfl <| fK rfl rfl <| fR 0 rfl rfl rfl rfl <| fD <| fD <| fD <| fD <| fD <| fD <| fD <| fD <| fO 3 rfl rfl rfl <| fO 4 rfl rfl rfl <| fN), rfl⟩, ?_⟩
         apply iU h <;> intro h
         ·apply iU h <;> intro h
          ·apply iU h <;> intro h
           ·refine cG h Wi fun v117 h => ?_
            refine ⟨rho [2, 11, 12], (.cells (iI l.MaxPacket :: iI l.MaxDepth :: []) :: .cells (iI l.MaxPacket :: iI l.MaxDepth :: []) :: .cells (iI v117.2.l.MaxPacket :: iI v117.2.l.MaxDepth :: .slice 1 13 0 v117.2.kept.length :: iI v117.2.from' :: iI v117.2.at' :: iI v117.2.need :: iI v117.2.e :: .func (.func v117.2.next) [.ptr 2 0] [] :: .slice 4 14 0 v117.2.out.length :: []) :: .dead :: .dead :: .dead :: .dead :: .dead :: .dead :: .dead :: .dead :: .dead :: .dead :: .cells (Zl (cI .u8) v117.2.kept) :: .cells (Zl Q6.cells v117.2.out) :: []), iI v117.1, ⟨(rE rfl <| rN), (hE rfl <| hO rfl <| hO rfl <| hN), rfl, rfl, (roE rfl <| roE (Q2 _ _ _) <| roE (Q2 _ _ _) <| roN), rfl, (fK rfl rfl <| fK rfl rfl <| fR 0 rfl rfl rfl rfl <| fD <| fD <| fD <| fD <| fD <| fD <| fD <| fD <| fD <| fD <| fO 3 rfl rfl rfl <| fO 4 rfl rfl rfl <| fN), rfl⟩, ?_⟩
            cases h; exact (.p _)
           ·cases h; exact (.p _)
          ·cases h; exact (.p _)
         ·cases h; exact (.p _)
        ·cases h; exact (.p _)
       ·cases h; exact (.p _)
      ·apply iU h <;> intro h
       ·apply iU h <;> intro h
        ·cases h; exact (.p _)
        ·cases h; exact (.p _)
       ·cases h; exact (.p _)
end
end
end Go.Av
