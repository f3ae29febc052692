/- The law. Part of a proof of a given statement: for every input the law returns true and the arguments read as before; no condition beyond the given row. -/
import Derived.Test.YtegedmcbfmfjeaaDoorLiftF2
namespace Go.Av
noncomputable section
open Go.Proofs
set_option maxRecDepth 100000
set_option maxHeartbeats 4000000
attribute [local irreducible] Xb Y3 Q27 Q2g Qcy Qeq Q3m
section
def Yj (N : Nat) (s_0 : List UInt8) (l : Qa) (v1 : Int × Int) (b5 : UInt8) (b7 : UInt8) (v10 : Int) : Nat → (List UInt8) → (List Q0) → Option (Q6 × Int × Int)
 | 0, _, _ => none
 | n + 1, left34, l35 =>
  cond (Q5s .neq left34 [])
  (cond (Qe .eql (l35.length : Int) 1000)
  (some ((⟨0, 0, [], []⟩ : Q6), 0, 4))
  ((Zr N left34 l.MaxDepth).bind fun v38 =>
  cond (Qe .eql v38.2.2 3)
  (some ((⟨0, 0, [], []⟩ : Q6), 0, 5))
  (cond (Qe .neq v38.2.2 0)
  (some ((⟨0, 0, [], []⟩ : Q6), 0, v38.2.2))
  (cond (Nat.ble ((l35.length + 1 + 4096) * 56) 17592186044416) (cond (decide (0 ≤ v38.2.1)) (cond (Nat.ble v38.2.1.toNat left34.length && Nat.ble left34.length left34.length) (Yj N s_0 l v1 b5 b7 v10 n ((left34.take left34.length).drop v38.2.1.toNat) (l35 ++ [v38.1])) none) none) none))))
  (some ((⟨(IntKind.wrap .i64 (b7.toNat : Int)), (IntKind.wrap .i64 v10), ((s_0.take ((IntKind.wrap .i64 (4 * (IntKind.wrap .i64 (b5.toNat : Int)))).toNat)).drop 8), l35⟩ : Q6), v1.1, 0))
def W1 (N : Nat) (s_0 : List UInt8) (l : Qa) : Option (Q6 × Int × Int) :=
 (Zw N s_0 l).bind fun v1 =>
 cond (Qe .neq v1.2 0)
 (some ((⟨0, 0, [], []⟩ : Q6), 0, v1.2))
 (cond (Qe .lss (s_0.length : Int) v1.1)
 (some ((⟨0, 0, [], []⟩ : Q6), 0, 3))
 ((idx s_0 4).bind fun b5 =>
 (idx s_0 5).bind fun b7 =>
 cond (Nat.ble 6 8 && Nat.ble 8 s_0.length) ((Wp N ((s_0.take 8).drop 6)).bind fun v10 =>
 cond (decide (0 ≤ (IntKind.wrap .i64 (4 * (IntKind.wrap .i64 (b5.toNat : Int)))))) (cond (Nat.ble 8 ((IntKind.wrap .i64 (4 * (IntKind.wrap .i64 (b5.toNat : Int)))).toNat) && Nat.ble ((IntKind.wrap .i64 (4 * (IntKind.wrap .i64 (b5.toNat : Int)))).toNat) s_0.length) (cond (decide (0 ≤ v1.1)) (cond (Nat.ble (IntKind.wrap .i64 (4 * (IntKind.wrap .i64 (b5.toNat : Int)))).toNat v1.1.toNat && Nat.ble v1.1.toNat s_0.length) (Yj N s_0 l v1 b5 b7 v10 N ((s_0.take v1.1.toNat).drop ((IntKind.wrap .i64 (4 * (IntKind.wrap .i64 (b5.toNat : Int)))).toNat)) []) none) none) none) none) none))
theorem Q1b {N} {s_0} {l} {r} (h : W1 N s_0 l = some r) : Xp Tryd.prog G1 77 [.str s_0, .agg (Qa.cells l)] (.tuple [.agg (Q6.cells r.1), .int .i64 r.2.1, .int .i64 r.2.2]) := by
 refine Qk k77 ?_
 unfold W1 at h
 rw [cX] at h
 refine cP h Xd (.cons (.p _) (.cons q2 .nil)) fun v1 h => ?_
 apply iU h <;> intro h
 ·obtain rfl := Qf h; exact (Frz.tuple' (.cons q4n p2))
 ·apply iU h <;> intro h
  ·obtain rfl := Qf h; exact (Frz.tuple' (.cons q4n p2))
  ·refine xB h fun b5 h => ?_
   refine Q7 ?_
   refine xB h fun b7 h => ?_
   refine kU h fun h => ?_
   refine cD h Uw p1 fun v10 h => ?_
   obtain ⟨hk12, h⟩ := Vr h
   refine V5 hk12 ?_
   refine kU h fun h => ?_
   refine V5 hk12 ?_
   refine kU h fun h => ?_
   refine kU h fun h => ?_
   refine lpC (τ := (List UInt8) × (List Q0)) (fun ⟨left34, _⟩ => (a2 (.any :: .ptr 0 0 :: .ptr 1 0 :: iI v1.1 :: .any :: .any :: iS left34 :: a16 (a16 (a16 (a16 (a4 (.any :: [])))))) : List AV)) (fun ⟨_, l35⟩ => (.cells (iI l.MaxPacket :: iI l.MaxDepth :: []) :: .cells (iI (IntKind.wrap .i64 (b7.toNat : Int)) :: iI (IntKind.wrap .i64 v10) :: .p (.str ((s_0.take ((IntKind.wrap .i64 (4 * (IntKind.wrap .i64 (b5.toNat : Int)))).toNat)).drop 8)) :: .slice 4 2 0 l35.length :: []) :: .cells (Zk Q0.cells l35) :: [] : List AObj)) (fun n0 ⟨left34, l35⟩ => Yj N s_0 l v1 b5 b7 v10 n0 left34 l35) (((s_0.take v1.1.toNat).drop ((IntKind.wrap .i64 (4 * (IntKind.wrap .i64 (b5.toNat : Int)))).toNat)), []) h (fun i => i) ⟨(rW <| rA <| rE rfl <| rE rfl <| rE rfl <| rW <| rE rfl <| rX <| rX <| rX <| rX <| rX <| rX <| rX <| rX <| rV <| rA <| rN), (hE rfl <| hC rfl (rE rfl <| rE rfl <| rE rfl <| rS <| rN) <| hV lb <| hN), rfl, rfl, (roE rfl <| roE rfl <| roE (Q2 _ _ _) <| roN)⟩ fun n0 ⟨left34, l35⟩ h => ?_
   simp only [Yj] at h
   rw [cX, cY] at h
   apply iU h <;> intro h
   ·apply iU h <;> intro h
    ·obtain rfl := Qf h; exact (Frz.tuple' (.cons q4n p2))
    ·refine cP h Q1j p2 fun v38 h => ?_
     apply iU h <;> intro h
     ·refine ifT (cF (by decide)) ?_
      obtain rfl := Qf h; exact (Frz.tuple' (.cons q4n p2))
     ·apply iU h <;> intro h
      ·obtain rfl := Qf h; exact (Frz.tuple' (.cons q4n p2))
      ·obtain ⟨hk42, h⟩ := Vr h
       refine V5 (Xg (c := Q0.cells) (e := 4) (fun _ => rfl) (by first | (simp; done) | (simp [Qq]; done)) hk42) ?_
       refine Wr (c := Q0.cells) [v38.1] rfl ?_
       refine kU h fun h => ?_
       refine kU h fun h => ?_
       show Exists _
       exact ⟨(n0, ((left34.take left34.length).drop v38.2.1.toNat), (l35 ++ [v38.1])), h, Nat.lt_succ_self _, (rho [0, 1, 5]), ⟨(rW <| rA <| rE rfl <| rE rfl <| rE rfl <| rW <| rE rfl <| rX <| rX <| rX <| rX <| rX <| rX <| rX <| rX <| rV <| rA <| rN), (hE rfl <| hC rfl (rE rfl <| rE rfl <| rE rfl <| rL (by first | (simp; done) | (simp [Qq]; done)) rfl <| rN) <| hO rfl <| hN), rfl, rfl, (roE rfl <| roE rfl <| roE (Q2 _ _ _) <| roN)⟩⟩
   ·obtain rfl := Qf h; exact (Frz.tuple' (.cons (Frz.agg' (.cons (.p _) (.cons (.p _) (.cons (.p _) (.cons (Q0.frz_own (l := l35) rfl trivial (by first | (simp; done) | (simp [Qq]; done))) .nil))))) p2))
def Zi (N : Nat) (x : Q3) : Option ((Bool) × Q3) :=
 cond (decide (0 ≤ x.from')) (cond (Nat.ble x.from'.toNat x.kept.length && Nat.ble x.kept.length x.kept.length) (cond (Qe .lss (((x.kept.length - x.from'.toNat) : Nat) : Int) x.need)
 (some (false, x))
 (cond (decide (0 ≤ x.need)) (cond (Nat.ble 0 x.need.toNat && Nat.ble x.need.toNat (x.kept.length - x.from'.toNat)) ((W1 N ((((x.kept : List Int).drop (0 + x.from'.toNat * 1)).take x.need.toNat).map fun n => UInt8.ofNat n.toNat) x.l).bind fun v6 =>
 cond (Qe .neq v6.2.2 0)
 ((Zt N x v6.2.2).bind fun v9 =>
 some (v9.1, v9.2))
 (cond (Nat.ble ((x.out.length + 1 + 4096) * 56) 17592186044416) ((idx ((x.out ++ [(⟨0, 0, [], []⟩ : Q6)]) : List Q6) (x.out.length : Int)).bind fun y12 =>
 some (true, (⟨x.l, x.kept, (IntKind.wrap .i64 (x.from' + v6.2.1)), (IntKind.wrap .i64 (x.at' + v6.2.1)), x.need, x.e, 37, (((x.out ++ [(⟨0, 0, [], []⟩ : Q6)]) : List Q6).set (Int.toNat (x.out.length : Int)) v6.1)⟩ : Q3))) none)) none) none)) none) none
theorem We {N} {x} {r} (h : Zi N x = some r) : GC Tryd.prog G1 54 (.ptr 0 0 :: []) (.cells (.p (.int .i64 x.l.MaxPacket) :: .p (.int .i64 x.l.MaxDepth) :: .slice 1 1 0 x.kept.length :: .p (.int .i64 x.from') :: .p (.int .i64 x.at') :: .p (.int .i64 x.need) :: .p (.int .i64 x.e) :: .func (.func x.next) [.ptr 0 0] [] :: .slice 4 2 0 x.out.length :: []) :: .cells (Zk (cI .u8) x.kept) :: .cells (Zk Q6.cells x.out) :: []) (.p (.bool r.1)) (.cells (.p (.int .i64 r.2.l.MaxPacket) :: .p (.int .i64 r.2.l.MaxDepth) :: .slice 1 3 0 r.2.kept.length :: .p (.int .i64 r.2.from') :: .p (.int .i64 r.2.at') :: .p (.int .i64 r.2.need) :: .p (.int .i64 r.2.e) :: .func (.func r.2.next) [.ptr 0 0] [] :: .slice 4 4 0 r.2.out.length :: []) :: .dead :: .dead :: .cells (Zk (cI .u8) r.2.kept) :: .cells (Zk Q6.cells r.2.out) :: []) := by
 refine Jk k54 (Nat.le_of_ble_eq_true rfl) ?_
 unfold Zi at h
 rw [cX] at h
 refine Zv k38 ?_
 refine Q7 ?_
 refine kU h fun h => ?_
 obtain ⟨hk2, h⟩ := Vr h
 refine V5 hk2 ?_
 apply iU h <;> intro h
 ·obtain rfl := Qf h
  show Exists _
  exact ⟨(rho [0, 1, 2, 1, 2]), ⟨(rE rfl <| rN), (hE rfl <| hD <| hD <| hO rfl <| hO rfl <| hN), rfl, rfl, (roE rfl <| roE rfl <| roE rfl <| roE (Q2 _ _ _) <| roE (Q2 _ _ _) <| roN)⟩⟩
 ·refine Q7 ?_
  refine kU h fun h => ?_
  obtain ⟨hk5, h⟩ := Vr h
  refine V5 hk5 ?_
  refine Qhu (l := x.kept) (off := (0 + x.from'.toNat * 1)) (n := x.need.toNat) (by have e : x.kept.length = (x.kept : List Int).length := (by first | (simp; done) | (simp [Qq]; done)); simp only [Bool.and_eq_true, Nat.ble_eq] at hk2 hk5; omega) ?_
  refine cD h Q1b (.cons (.p _) (.cons q2 .nil)) fun v6 h => ?_
  apply iU h <;> intro h
  ·refine cG h Wb fun v9 h => ?_
   refine ⟨rho [0, 1, 2], (.cells (iI v9.2.l.MaxPacket :: iI v9.2.l.MaxDepth :: .slice 1 4 0 v9.2.kept.length :: iI v9.2.from' :: iI v9.2.at' :: iI v9.2.need :: iI v9.2.e :: .func (.func v9.2.next) [.ptr 0 0] [] :: .slice 4 5 0 v9.2.out.length :: []) :: .dead :: .dead :: .cells (iI v6.1.Type' :: iI v6.1.Channel :: iS v6.1.Ext :: .p (.slice 4 (Q0.rows v6.1.Values)) :: []) :: .cells (Zk (cI .u8) v9.2.kept) :: .cells (Zk Q6.cells v9.2.out) :: []), .p (.bool v9.1), ⟨(rE rfl <| rE rfl <| rN), (hE rfl <| hO rfl <| hO rfl <| hN), rfl, rfl, (roE rfl <| roE (Q2 _ _ _) <| roE (Q2 _ _ _) <| roN), rfl, (fR 0 rfl rfl rfl rfl <| fD <| fD <| fK rfl rfl <| fO 3 rfl rfl rfl <| fO 4 rfl rfl rfl <| fN), rfl⟩, ?_⟩
   obtain rfl := Qf h
   show Exists _
   exact ⟨(rho [0, 1, 2, 4, 5]), ⟨(rE rfl <| rN), (hE rfl <| hD <| hD <| hO rfl <| hO rfl <| hN), rfl, rfl, (roE rfl <| roE rfl <| roE rfl <| roE (Q2 _ _ _) <| roE (Q2 _ _ _) <| roN)⟩⟩
  ·refine Q7 ?_
   obtain ⟨hk11, h⟩ := Vr h
   refine V5 (Xg (c := Q6.cells) (e := 4) (fun _ => rfl) (by first | (simp; done) | (simp [Qq]; done)) hk11) ?_
   refine Wr (c := Q6.cells) [(⟨0, 0, [], []⟩ : Q6)] rfl ?_
   obtain ⟨y12, hy13, h⟩ := Jl h
   refine V5 (Qa5 hy13 (by first | (simp; done) | (simp [Qq]; done))) ?_
   refine V5 (Qf9 (c := Q6.cells) (e := 4) (fun _ => rfl) hy13 (off := 0) (by omega) rfl (by decide)) ?_
   refine Qev (c := Q6.cells) (e := 4) (fun _ => rfl) hy13 v6.1 (off := 0) (by first | omega | (simp only [Q9m, orI, Qln, Qab, Q1z, Q5c]; omega)) rfl (by simp) ?_
   obtain rfl := Qf h
   show Exists _
   exact ⟨(rho [0, 1, 2, 1, 5]), ⟨(rE rfl <| rN), (hC rfl (rE rfl <| rE rfl <| rE rfl <| rE rfl <| rE rfl <| rE rfl <| rE rfl <| rE rfl <| rL (by first | (simp; done) | (simp [Qq]; done)) rfl <| rN) <| hD <| hD <| hO rfl <| hO rfl <| hN), rfl, rfl, (roE rfl <| roE rfl <| roE rfl <| roE (Q2 _ _ _) <| roE (Q2 _ _ _) <| roN)⟩⟩
def Zh (N : Nat) (x : Q3) : Option ((Bool) × Q3) :=
 cond (decide (0 ≤ x.from')) (cond (Nat.ble x.from'.toNat x.kept.length && Nat.ble x.kept.length x.kept.length) (cond (Qe .lss (((x.kept.length - x.from'.toNat) : Nat) : Int) 8)
 (some (false, x))
 (cond (Nat.ble 0 8 && Nat.ble 8 (x.kept.length - x.from'.toNat)) ((Zw N ((((x.kept : List Int).drop (0 + x.from'.toNat * 1)).take 8).map fun n => UInt8.ofNat n.toNat) x.l).bind fun v5 =>
 cond (Qe .neq v5.2 0)
 ((Zt N x v5.2).bind fun v8 =>
 some (v8.1, v8.2))
 (some (true, (⟨x.l, x.kept, x.from', x.at', v5.1, x.e, 54, x.out⟩ : Q3)))) none)) none) none
theorem Wa {N} {x} {r} (h : Zh N x = some r) : GC Tryd.prog G1 37 (.ptr 0 0 :: []) (.cells (.p (.int .i64 x.l.MaxPacket) :: .p (.int .i64 x.l.MaxDepth) :: .slice 1 1 0 x.kept.length :: .p (.int .i64 x.from') :: .p (.int .i64 x.at') :: .p (.int .i64 x.need) :: .p (.int .i64 x.e) :: .func (.func x.next) [.ptr 0 0] [] :: .slice 4 2 0 x.out.length :: []) :: .cells (Zk (cI .u8) x.kept) :: .cells (Zk Q6.cells x.out) :: []) (.p (.bool r.1)) (.cells (.p (.int .i64 r.2.l.MaxPacket) :: .p (.int .i64 r.2.l.MaxDepth) :: .slice 1 3 0 r.2.kept.length :: .p (.int .i64 r.2.from') :: .p (.int .i64 r.2.at') :: .p (.int .i64 r.2.need) :: .p (.int .i64 r.2.e) :: .func (.func r.2.next) [.ptr 0 0] [] :: .slice 4 4 0 r.2.out.length :: []) :: .dead :: .dead :: .cells (Zk (cI .u8) r.2.kept) :: .cells (Zk Q6.cells r.2.out) :: []) := by
 refine Jk k37 (Nat.le_of_ble_eq_true rfl) ?_
 unfold Zh at h
 rw [cX] at h
 refine Zv k38 ?_
 refine Q7 ?_
 refine kU h fun h => ?_
 obtain ⟨hk2, h⟩ := Vr h
 refine V5 hk2 ?_
 apply iU h <;> intro h
 ·obtain rfl := Qf h
  show Exists _
  exact ⟨(rho [0, 1, 2, 1, 2]), ⟨(rE rfl <| rN), (hE rfl <| hD <| hD <| hO rfl <| hO rfl <| hN), rfl, rfl, (roE rfl <| roE rfl <| roE rfl <| roE (Q2 _ _ _) <| roE (Q2 _ _ _) <| roN)⟩⟩
 ·refine Q7 ?_
  obtain ⟨hk4, h⟩ := Vr h
  refine V5 hk4 ?_
  refine Qhu (l := x.kept) (off := (0 + x.from'.toNat * 1)) (n := 8) (by have e : x.kept.length = (x.kept : List Int).length := (by first | (simp; done) | (simp [Qq]; done)); simp only [Bool.and_eq_true, Nat.ble_eq] at hk2 hk4; omega) ?_
  refine cD h Xd (.cons (.p _) (.cons q2 .nil)) fun v5 h => ?_
  apply iU h <;> intro h
  ·refine cG h Wb fun v8 h => ?_
   refine ⟨rho [0, 1, 2], (.cells (iI v8.2.l.MaxPacket :: iI v8.2.l.MaxDepth :: .slice 1 3 0 v8.2.kept.length :: iI v8.2.from' :: iI v8.2.at' :: iI v8.2.need :: iI v8.2.e :: .func (.func v8.2.next) [.ptr 0 0] [] :: .slice 4 4 0 v8.2.out.length :: []) :: .dead :: .dead :: .cells (Zk (cI .u8) v8.2.kept) :: .cells (Zk Q6.cells v8.2.out) :: []), .p (.bool v8.1), ⟨(rE rfl <| rE rfl <| rN), (hE rfl <| hO rfl <| hO rfl <| hN), rfl, rfl, (roE rfl <| roE (Q2 _ _ _) <| roE (Q2 _ _ _) <| roN), rfl, (fR 0 rfl rfl rfl rfl <| fD <| fD <| fO 3 rfl rfl rfl <| fO 4 rfl rfl rfl <| fN), rfl⟩, ?_⟩
   obtain rfl := Qf h
   show Exists _
   exact ⟨(rho [0, 1, 2, 3, 4]), ⟨(rE rfl <| rN), (hE rfl <| hD <| hD <| hO rfl <| hO rfl <| hN), rfl, rfl, (roE rfl <| roE rfl <| roE rfl <| roE (Q2 _ _ _) <| roE (Q2 _ _ _) <| roN)⟩⟩
  ·obtain rfl := Qf h
   show Exists _
   exact ⟨(rho [0, 1, 2, 1, 2]), ⟨(rE rfl <| rN), (hE rfl <| hD <| hD <| hO rfl <| hO rfl <| hN), rfl, rfl, (roE rfl <| roE rfl <| roE rfl <| roE (Q2 _ _ _) <| roE (Q2 _ _ _) <| roN)⟩⟩
def Qd (N : Nat) : Nat → Int → Int → Int → Int → Int → Int → Nat → (List Int) → (List Q6) → Option (((List Q6) × Int) × Q3)
 | 0, _, _, _, _, _, _, _, _, _ => none
 | n + 1, c28, c29, c30, c31, c32, c33, q34, l35, l36 =>
  cond (Nat.beq q34 37)
  ((Zh N (⟨(⟨c28, c29⟩ : Qa), l35, c30, c31, c32, c33, 37, l36⟩ : Q3)).bind fun v38 =>
  cond v38.1
  (Qd N n v38.2.l.MaxPacket v38.2.l.MaxDepth v38.2.from' v38.2.at' v38.2.need v38.2.e v38.2.next v38.2.kept v38.2.out)
  (cond (Qe .gtr v38.2.from' 0)
  (cond (decide (0 ≤ v38.2.from')) (cond (Nat.ble v38.2.from'.toNat v38.2.kept.length && Nat.ble v38.2.kept.length v38.2.kept.length) (cond (Nat.ble 1 v38.2.kept.length) (cond (Nat.ble 0 (((((v38.2.kept : List Int).drop (0 + v38.2.from'.toNat * 1)).take (v38.2.kept.length - v38.2.from'.toNat)).take v38.2.kept.length).length) && Nat.ble (((((v38.2.kept : List Int).drop (0 + v38.2.from'.toNat * 1)).take (v38.2.kept.length - v38.2.from'.toNat)).take v38.2.kept.length).length) v38.2.kept.length) (some ((v38.2.out, v38.2.e), (⟨v38.2.l, (((((((v38.2.kept : List Int).drop (0 + v38.2.from'.toNat * 1)).take (v38.2.kept.length - v38.2.from'.toNat)).take v38.2.kept.length) ++ (v38.2.kept : List Int).drop ((((v38.2.kept : List Int).drop (0 + v38.2.from'.toNat * 1)).take (v38.2.kept.length - v38.2.from'.toNat)).take v38.2.kept.length).length) : List Int).take (((((v38.2.kept : List Int).drop (0 + v38.2.from'.toNat * 1)).take (v38.2.kept.length - v38.2.from'.toNat)).take v38.2.kept.length).length)), 0, v38.2.at', v38.2.need, v38.2.e, v38.2.next, []⟩ : Q3))) none) none) none) none)
  (some ((v38.2.out, v38.2.e), (⟨v38.2.l, v38.2.kept, v38.2.from', v38.2.at', v38.2.need, v38.2.e, v38.2.next, []⟩ : Q3)))))
  (cond (Nat.beq q34 54)
  ((Zi N (⟨(⟨c28, c29⟩ : Qa), l35, c30, c31, c32, c33, 54, l36⟩ : Q3)).bind fun v47 =>
  cond v47.1
  (Qd N n v47.2.l.MaxPacket v47.2.l.MaxDepth v47.2.from' v47.2.at' v47.2.need v47.2.e v47.2.next v47.2.kept v47.2.out)
  (cond (Qe .gtr v47.2.from' 0)
  (cond (decide (0 ≤ v47.2.from')) (cond (Nat.ble v47.2.from'.toNat v47.2.kept.length && Nat.ble v47.2.kept.length v47.2.kept.length) (cond (Nat.ble 1 v47.2.kept.length) (cond (Nat.ble 0 (((((v47.2.kept : List Int).drop (0 + v47.2.from'.toNat * 1)).take (v47.2.kept.length - v47.2.from'.toNat)).take v47.2.kept.length).length) && Nat.ble (((((v47.2.kept : List Int).drop (0 + v47.2.from'.toNat * 1)).take (v47.2.kept.length - v47.2.from'.toNat)).take v47.2.kept.length).length) v47.2.kept.length) (some ((v47.2.out, v47.2.e), (⟨v47.2.l, (((((((v47.2.kept : List Int).drop (0 + v47.2.from'.toNat * 1)).take (v47.2.kept.length - v47.2.from'.toNat)).take v47.2.kept.length) ++ (v47.2.kept : List Int).drop ((((v47.2.kept : List Int).drop (0 + v47.2.from'.toNat * 1)).take (v47.2.kept.length - v47.2.from'.toNat)).take v47.2.kept.length).length) : List Int).take (((((v47.2.kept : List Int).drop (0 + v47.2.from'.toNat * 1)).take (v47.2.kept.length - v47.2.from'.toNat)).take v47.2.kept.length).length)), 0, v47.2.at', v47.2.need, v47.2.e, v47.2.next, []⟩ : Q3))) none) none) none) none)
  (some ((v47.2.out, v47.2.e), (⟨v47.2.l, v47.2.kept, v47.2.from', v47.2.at', v47.2.need, v47.2.e, v47.2.next, []⟩ : Q3)))))
  (none))
def Z5 (N : Nat) : Nat → Int → Int → Int → Int → Int → Int → Nat → (List Int) → (List Q6) → Option (((List Q6) × Int) × Q3)
 | 0, _, _, _, _, _, _, _, _, _ => none
 | n + 1, c81, c82, c83, c84, c85, c86, q87, l88, l89 =>
  cond (Nat.beq q87 37)
  ((Zh N (⟨(⟨c81, c82⟩ : Qa), l88, c83, c84, c85, c86, 37, l89⟩ : Q3)).bind fun v91 =>
  cond v91.1
  (Z5 N n v91.2.l.MaxPacket v91.2.l.MaxDepth v91.2.from' v91.2.at' v91.2.need v91.2.e v91.2.next v91.2.kept v91.2.out)
  (cond (Qe .gtr v91.2.from' 0)
  (cond (decide (0 ≤ v91.2.from')) (cond (Nat.ble v91.2.from'.toNat v91.2.kept.length && Nat.ble v91.2.kept.length v91.2.kept.length) (cond (Nat.ble 1 v91.2.kept.length) (cond (Nat.ble 0 (((((v91.2.kept : List Int).drop (0 + v91.2.from'.toNat * 1)).take (v91.2.kept.length - v91.2.from'.toNat)).take v91.2.kept.length).length) && Nat.ble (((((v91.2.kept : List Int).drop (0 + v91.2.from'.toNat * 1)).take (v91.2.kept.length - v91.2.from'.toNat)).take v91.2.kept.length).length) v91.2.kept.length) (some ((v91.2.out, v91.2.e), (⟨v91.2.l, (((((((v91.2.kept : List Int).drop (0 + v91.2.from'.toNat * 1)).take (v91.2.kept.length - v91.2.from'.toNat)).take v91.2.kept.length) ++ (v91.2.kept : List Int).drop ((((v91.2.kept : List Int).drop (0 + v91.2.from'.toNat * 1)).take (v91.2.kept.length - v91.2.from'.toNat)).take v91.2.kept.length).length) : List Int).take (((((v91.2.kept : List Int).drop (0 + v91.2.from'.toNat * 1)).take (v91.2.kept.length - v91.2.from'.toNat)).take v91.2.kept.length).length)), 0, v91.2.at', v91.2.need, v91.2.e, v91.2.next, []⟩ : Q3))) none) none) none) none)
  (some ((v91.2.out, v91.2.e), (⟨v91.2.l, v91.2.kept, v91.2.from', v91.2.at', v91.2.need, v91.2.e, v91.2.next, []⟩ : Q3)))))
  (cond (Nat.beq q87 54)
  ((Zi N (⟨(⟨c81, c82⟩ : Qa), l88, c83, c84, c85, c86, 54, l89⟩ : Q3)).bind fun v100 =>
  cond v100.1
  (Z5 N n v100.2.l.MaxPacket v100.2.l.MaxDepth v100.2.from' v100.2.at' v100.2.need v100.2.e v100.2.next v100.2.kept v100.2.out)
  (cond (Qe .gtr v100.2.from' 0)
  (cond (decide (0 ≤ v100.2.from')) (cond (Nat.ble v100.2.from'.toNat v100.2.kept.length && Nat.ble v100.2.kept.length v100.2.kept.length) (cond (Nat.ble 1 v100.2.kept.length) (cond (Nat.ble 0 (((((v100.2.kept : List Int).drop (0 + v100.2.from'.toNat * 1)).take (v100.2.kept.length - v100.2.from'.toNat)).take v100.2.kept.length).length) && Nat.ble (((((v100.2.kept : List Int).drop (0 + v100.2.from'.toNat * 1)).take (v100.2.kept.length - v100.2.from'.toNat)).take v100.2.kept.length).length) v100.2.kept.length) (some ((v100.2.out, v100.2.e), (⟨v100.2.l, (((((((v100.2.kept : List Int).drop (0 + v100.2.from'.toNat * 1)).take (v100.2.kept.length - v100.2.from'.toNat)).take v100.2.kept.length) ++ (v100.2.kept : List Int).drop ((((v100.2.kept : List Int).drop (0 + v100.2.from'.toNat * 1)).take (v100.2.kept.length - v100.2.from'.toNat)).take v100.2.kept.length).length) : List Int).take (((((v100.2.kept : List Int).drop (0 + v100.2.from'.toNat * 1)).take (v100.2.kept.length - v100.2.from'.toNat)).take v100.2.kept.length).length)), 0, v100.2.at', v100.2.need, v100.2.e, v100.2.next, []⟩ : Q3))) none) none) none) none)
  (some ((v100.2.out, v100.2.e), (⟨v100.2.l, v100.2.kept, v100.2.from', v100.2.at', v100.2.need, v100.2.e, v100.2.next, []⟩ : Q3)))))
  (none))
def Qo (N : Nat) (x : Q3) (chunk : List UInt8) : Option (((List Q6) × Int) × Q3) :=
 cond (Qe .neq x.e 0)
 (some (([], x.e), x))
 (cond (Nat.beq chunk.length 0)
 (Qd N N x.l.MaxPacket x.l.MaxDepth x.from' x.at' x.need x.e x.next x.kept x.out)
 (cond (Nat.ble ((x.kept.length + chunk.length + 4096) * 1) 17592186044416) (Z5 N N x.l.MaxPacket x.l.MaxDepth x.from' x.at' x.need x.e x.next (x.kept ++ (chunk.map fun b => (b.toNat : Int))) x.out) none))
theorem Y8 {N} {x} {chunk} {r} (h : Qo N x chunk = some r) : GC Tryd.prog G1 18 (.ptr 0 0 :: .p (.str chunk) :: []) (.cells (.p (.int .i64 x.l.MaxPacket) :: .p (.int .i64 x.l.MaxDepth) :: .slice 1 1 0 x.kept.length :: .p (.int .i64 x.from') :: .p (.int .i64 x.at') :: .p (.int .i64 x.need) :: .p (.int .i64 x.e) :: .func (.func x.next) [.ptr 0 0] [] :: .slice 4 2 0 x.out.length :: []) :: .cells (Zk (cI .u8) x.kept) :: .cells (Zk Q6.cells x.out) :: []) (.p (.tuple [.slice 4 (Qq Q6.cells r.1.1), .int .i64 r.1.2])) (.cells (.p (.int .i64 r.2.l.MaxPacket) :: .p (.int .i64 r.2.l.MaxDepth) :: .slice 1 3 0 r.2.kept.length :: .p (.int .i64 r.2.from') :: .p (.int .i64 r.2.at') :: .p (.int .i64 r.2.need) :: .p (.int .i64 r.2.e) :: .func (.func r.2.next) [.ptr 0 0] [] :: .slice 4 4 0 r.2.out.length :: []) :: .dead :: .dead :: .cells (Zk (cI .u8) r.2.kept) :: .cells (Zk Q6.cells r.2.out) :: []) := by
 refine Jk k18 (Nat.le_of_ble_eq_true rfl) ?_
 unfold Qo at h
 rw [cX] at h
 apply iU h <;> intro h
 ·refine Q7 ?_
  obtain rfl := Qf h
  show Exists _
  exact ⟨(rho [0, 1, 2, 1, 2]), ⟨(rF (Frz.tuple' (.cons (.nil _) p1)) <| rN), (hE rfl <| hD <| hD <| hO rfl <| hO rfl <| hN), rfl, rfl, (roE rfl <| roE rfl <| roE rfl <| roE (Q2 _ _ _) <| roE (Q2 _ _ _) <| roN)⟩⟩
 ·refine Ql6 (b := chunk) ?_
  apply iU h <;> intro h
  ·refine lpC (τ := Int × Int × Int × Int × Int × Int × Nat × (List Int) × (List Q6)) (fun ⟨_, _, _, _, _, _, _, _, _⟩ => (.ptr 0 0 :: a16 (a16 (a16 (a16 (a4 ([]))))) : List AV)) (fun ⟨c28, c29, c30, c31, c32, c33, q34, l35, l36⟩ => (.cells (iI c28 :: iI c29 :: .slice 1 3 0 l35.length :: iI c30 :: iI c31 :: iI c32 :: iI c33 :: .func (.func q34) [.ptr 0 0] [] :: .slice 4 4 0 l36.length :: []) :: .dead :: .dead :: .cells (Zk (cI .u8) l35) :: .cells (Zk Q6.cells l36) :: [] : List AObj)) (fun n0 ⟨c28, c29, c30, c31, c32, c33, q34, l35, l36⟩ => Qd N n0 c28 c29 c30 c31 c32 c33 q34 l35 l36) (x.l.MaxPacket, x.l.MaxDepth, x.from', x.at', x.need, x.e, x.next, x.kept, x.out) h (rho [0, 1, 2, 1, 2]) ⟨(rE rfl <| rX <| rX <| rX <| rX <| rX <| rX <| rX <| rX <| rV <| rN), (hE rfl <| hD <| hD <| hO rfl <| hO rfl <| hN), rfl, rfl, (roE rfl <| roE rfl <| roE rfl <| roE (Q2 _ _ _) <| roE (Q2 _ _ _) <| roN)⟩ fun n0 ⟨c28, c29, c30, c31, c32, c33, q34, l35, l36⟩ h => ?_
   simp only [Qd] at h
   rw [cX] at h
   refine fnU h (fun e h => ?_) fun h => ?_
   ·subst e
    refine cG h Wa fun v38 h => ?_
    refine ⟨rho [0, 3, 4], (.cells (iI v38.2.l.MaxPacket :: iI v38.2.l.MaxDepth :: .slice 1 5 0 v38.2.kept.length :: iI v38.2.from' :: iI v38.2.at' :: iI v38.2.need :: iI v38.2.e :: .func (.func v38.2.next) [.ptr 0 0] [] :: .slice 4 6 0 v38.2.out.length :: []) :: .dead :: .dead :: .dead :: .dead :: .cells (Zk (cI .u8) v38.2.kept) :: .cells (Zk Q6.cells v38.2.out) :: []), .p (.bool v38.1), ⟨(rE rfl <| rN), (hE rfl <| hO rfl <| hO rfl <| hN), rfl, rfl, (roE rfl <| roE (Q2 _ _ _) <| roE (Q2 _ _ _) <| roN), rfl, (fR 0 rfl rfl rfl rfl <| fD <| fD <| fD <| fD <| fO 3 rfl rfl rfl <| fO 4 rfl rfl rfl <| fN), rfl⟩, ?_⟩
    apply iU h <;> intro h
    ·show Exists _
     exact ⟨(n0, v38.2.l.MaxPacket, v38.2.l.MaxDepth, v38.2.from', v38.2.at', v38.2.need, v38.2.e, v38.2.next, v38.2.kept, v38.2.out), h, Nat.lt_succ_self _, (rho [0, 1, 2, 5, 6]), ⟨(rE rfl <| rX <| rX <| rX <| rX <| rX <| rX <| rX <| rX <| rV <| rN), (hE rfl <| hD <| hD <| hO rfl <| hO rfl <| hN), rfl, rfl, (roE rfl <| roE rfl <| roE rfl <| roE (Q2 _ _ _) <| roE (Q2 _ _ _) <| roN)⟩⟩
    ·apply iU h <;> intro h
     ·refine Q7 ?_
      obtain ⟨hk42, h⟩ := Vr h
      obtain ⟨hk43, h⟩ := Vr h
      refine X1 [0] (r := .slice 1 5 (0 + v38.2.from'.toNat * 1) (v38.2.kept.length - v38.2.from'.toNat)) rfl rfl (fun a ha o ho => ?_) (Zv k38 ?_) ?_
      ·simp only [List.mem_cons, List.mem_nil_iff, or_false] at ha; subst ha; cases ho; rfl
      ·refine Q7 ?_
       refine V5 hk42 ?_
       refine V5 hk43 ?_
       exact ⟨rfl, [], (List.append_nil _).symm⟩
      refine Qbu (l := v38.2.kept) (off := (0 + v38.2.from'.toNat * 1)) (n := (v38.2.kept.length - v38.2.from'.toNat)) (by have e : v38.2.kept.length = (v38.2.kept : List Int).length := (by first | (simp; done) | (simp [Qq]; done)); simp only [Bool.and_eq_true, Nat.ble_eq] at hk43; omega) ?_
      obtain ⟨hk44, h⟩ := Vr h
      refine V5 (Q3h (c := (cI .u8)) (l := (v38.2.kept : List Int)) (fun _ => rfl) (by first | (simp; done) | (simp [Qq]; done)) hk44) ?_
      refine Q7k (c := (cI .u8)) (l := (v38.2.kept : List Int)) (new := (((v38.2.kept : List Int).drop (0 + v38.2.from'.toNat * 1)).take (v38.2.kept.length - v38.2.from'.toNat))) (fun _ => rfl) ?_
      obtain ⟨hk45, h⟩ := Vr h
      refine V5 hk45 ?_
      refine Q7 ?_
      obtain rfl := Qf h
      show Exists _
      exact ⟨(rho [0, 1, 2, 5, 8]), ⟨(rF (Frz.tuple' (.cons (frz_own (c := Q6.cells) (l := (v38.2.out : List Q6)) (fun _ => rfl) rfl rfl (by first | (simp; done) | (simp [Qq]; done))) p1)) <| rN), (hC rfl (rE rfl <| rE rfl <| rL (List.length_take_of_le (l := ((((((v38.2.kept : List Int).drop (0 + v38.2.from'.toNat * 1)).take (v38.2.kept.length - v38.2.from'.toNat)).take v38.2.kept.length) ++ (v38.2.kept : List Int).drop ((((v38.2.kept : List Int).drop (0 + v38.2.from'.toNat * 1)).take (v38.2.kept.length - v38.2.from'.toNat)).take v38.2.kept.length).length) : List Int)) (by have e : v38.2.kept.length = ((((((v38.2.kept : List Int).drop (0 + v38.2.from'.toNat * 1)).take (v38.2.kept.length - v38.2.from'.toNat)).take v38.2.kept.length) ++ (v38.2.kept : List Int).drop ((((v38.2.kept : List Int).drop (0 + v38.2.from'.toNat * 1)).take (v38.2.kept.length - v38.2.from'.toNat)).take v38.2.kept.length).length) : List Int).length := (by simp <;> omega); simp only [Bool.and_eq_true, Nat.ble_eq] at hk45; omega)).symm rfl <| rE rfl <| rE rfl <| rE rfl <| rE rfl <| rE rfl <| rS <| rN) <| hD <| hD <| Qlf (((((v38.2.kept : List Int).drop (0 + v38.2.from'.toNat * 1)).take (v38.2.kept.length - v38.2.from'.toNat)).take v38.2.kept.length).length) rfl <| hV lb <| hN), rfl, rfl, (roE rfl <| roE rfl <| roE rfl <| roE (Q2 _ _ _) <| roE (Q2 _ _ _) <| roN)⟩⟩
     ·refine Q7 ?_
      obtain rfl := Qf h
      show Exists _
      exact ⟨(rho [0, 1, 2, 5, 8]), ⟨(rF (Frz.tuple' (.cons (frz_own (c := Q6.cells) (l := (v38.2.out : List Q6)) (fun _ => rfl) rfl rfl (by first | (simp; done) | (simp [Qq]; done))) p1)) <| rN), (hC rfl (rE rfl <| rE rfl <| rE rfl <| rE rfl <| rE rfl <| rE rfl <| rE rfl <| rE rfl <| rS <| rN) <| hD <| hD <| hO rfl <| hV lb <| hN), rfl, rfl, (roE rfl <| roE rfl <| roE rfl <| roE (Q2 _ _ _) <| roE (Q2 _ _ _) <| roN)⟩⟩
   ·skip
    refine fnU h (fun e h => ?_) fun h => ?_
    ·subst e
     refine cG h We fun v47 h => ?_
     refine ⟨rho [0, 3, 4], (.cells (iI v47.2.l.MaxPacket :: iI v47.2.l.MaxDepth :: .slice 1 5 0 v47.2.kept.length :: iI v47.2.from' :: iI v47.2.at' :: iI v47.2.need :: iI v47.2.e :: .func (.func v47.2.next) [.ptr 0 0] [] :: .slice 4 6 0 v47.2.out.length :: []) :: .dead :: .dead :: .dead :: .dead :: .cells (Zk (cI .u8) v47.2.kept) :: .cells (Zk Q6.cells v47.2.out) :: []), .p (.bool v47.1), ⟨(rE rfl <| rN), (hE rfl <| hO rfl <| hO rfl <| hN), rfl, rfl, (roE rfl <| roE (Q2 _ _ _) <| roE (Q2 _ _ _) <| roN), rfl, (fR 0 rfl rfl rfl rfl <| fD <| fD <| fD <| fD <| fO 3 rfl rfl rfl <| fO 4 rfl rfl rfl <| fN), rfl⟩, ?_⟩
     apply iU h <;> intro h
     ·show Exists _
      exact ⟨(n0, v47.2.l.MaxPacket, v47.2.l.MaxDepth, v47.2.from', v47.2.at', v47.2.need, v47.2.e, v47.2.next, v47.2.kept, v47.2.out), h, Nat.lt_succ_self _, (rho [0, 1, 2, 5, 6]), ⟨(rE rfl <| rX <| rX <| rX <| rX <| rX <| rX <| rX <| rX <| rV <| rN), (hE rfl <| hD <| hD <| hO rfl <| hO rfl <| hN), rfl, rfl, (roE rfl <| roE rfl <| roE rfl <| roE (Q2 _ _ _) <| roE (Q2 _ _ _) <| roN)⟩⟩
     ·apply iU h <;> intro h
      ·refine Q7 ?_
       obtain ⟨hk51, h⟩ := Vr h
       obtain ⟨hk52, h⟩ := Vr h
       refine X1 [0] (r := .slice 1 5 (0 + v47.2.from'.toNat * 1) (v47.2.kept.length - v47.2.from'.toNat)) rfl rfl (fun a ha o ho => ?_) (Zv k38 ?_) ?_
       ·simp only [List.mem_cons, List.mem_nil_iff, or_false] at ha; subst ha; cases ho; rfl
       ·refine Q7 ?_
        refine V5 hk51 ?_
        refine V5 hk52 ?_
        exact ⟨rfl, [], (List.append_nil _).symm⟩
       refine Qbu (l := v47.2.kept) (off := (0 + v47.2.from'.toNat * 1)) (n := (v47.2.kept.length - v47.2.from'.toNat)) (by have e : v47.2.kept.length = (v47.2.kept : List Int).length := (by first | (simp; done) | (simp [Qq]; done)); simp only [Bool.and_eq_true, Nat.ble_eq] at hk52; omega) ?_
       obtain ⟨hk53, h⟩ := Vr h
       refine V5 (Q3h (c := (cI .u8)) (l := (v47.2.kept : List Int)) (fun _ => rfl) (by first | (simp; done) | (simp [Qq]; done)) hk53) ?_
       refine Q7k (c := (cI .u8)) (l := (v47.2.kept : List Int)) (new := (((v47.2.kept : List Int).drop (0 + v47.2.from'.toNat * 1)).take (v47.2.kept.length - v47.2.from'.toNat))) (fun _ => rfl) ?_
       obtain ⟨hk54, h⟩ := Vr h
       refine V5 hk54 ?_
       refine Q7 ?_
       obtain rfl := Qf h
       show Exists _
       exact ⟨(rho [0, 1, 2, 5, 8]), ⟨(rF (Frz.tuple' (.cons (frz_own (c := Q6.cells) (l := (v47.2.out : List Q6)) (fun _ => rfl) rfl rfl (by first | (simp; done) | (simp [Qq]; done))) p1)) <| rN), (hC rfl (rE rfl <| rE rfl <| rL (List.length_take_of_le (l := ((((((v47.2.kept : List Int).drop (0 + v47.2.from'.toNat * 1)).take (v47.2.kept.length - v47.2.from'.toNat)).take v47.2.kept.length) ++ (v47.2.kept : List Int).drop ((((v47.2.kept : List Int).drop (0 + v47.2.from'.toNat * 1)).take (v47.2.kept.length - v47.2.from'.toNat)).take v47.2.kept.length).length) : List Int)) (by have e : v47.2.kept.length = ((((((v47.2.kept : List Int).drop (0 + v47.2.from'.toNat * 1)).take (v47.2.kept.length - v47.2.from'.toNat)).take v47.2.kept.length) ++ (v47.2.kept : List Int).drop ((((v47.2.kept : List Int).drop (0 + v47.2.from'.toNat * 1)).take (v47.2.kept.length - v47.2.from'.toNat)).take v47.2.kept.length).length) : List Int).length := (by simp <;> omega); simp only [Bool.and_eq_true, Nat.ble_eq] at hk54; omega)).symm rfl <| rE rfl <| rE rfl <| rE rfl <| rE rfl <| rE rfl <| rS <| rN) <| hD <| hD <| Qlf (((((v47.2.kept : List Int).drop (0 + v47.2.from'.toNat * 1)).take (v47.2.kept.length - v47.2.from'.toNat)).take v47.2.kept.length).length) rfl <| hV lb <| hN), rfl, rfl, (roE rfl <| roE rfl <| roE rfl <| roE (Q2 _ _ _) <| roE (Q2 _ _ _) <| roN)⟩⟩
      ·refine Q7 ?_
       obtain rfl := Qf h
       show Exists _
       exact ⟨(rho [0, 1, 2, 5, 8]), ⟨(rF (Frz.tuple' (.cons (frz_own (c := Q6.cells) (l := (v47.2.out : List Q6)) (fun _ => rfl) rfl rfl (by first | (simp; done) | (simp [Qq]; done))) p1)) <| rN), (hC rfl (rE rfl <| rE rfl <| rE rfl <| rE rfl <| rE rfl <| rE rfl <| rE rfl <| rE rfl <| rS <| rN) <| hD <| hD <| hO rfl <| hV lb <| hN), rfl, rfl, (roE rfl <| roE rfl <| roE rfl <| roE (Q2 _ _ _) <| roE (Q2 _ _ _) <| roN)⟩⟩
    ·skip
     first | (cases h; done) | (simp [Qfl] at h; done)
  ·obtain ⟨hk55, h⟩ := Vr h
   refine V5 (Xg (c := (cI .u8)) (e := 1) (l := x.kept) (fun _ => rfl) (by first | (simp; done) | (simp [Qq]; done)) hk55) ?_
   refine Wr (c := (cI .u8)) (l := x.kept) (chunk.map fun b => (b.toNat : Int)) rfl ?_
   refine lpC (τ := Int × Int × Int × Int × Int × Int × Nat × (List Int) × (List Q6)) (fun ⟨_, _, _, _, _, _, _, _, _⟩ => (.ptr 0 0 :: a16 (a16 (a16 (a16 (a4 ([]))))) : List AV)) (fun ⟨c81, c82, c83, c84, c85, c86, q87, l88, l89⟩ => (.cells (iI c81 :: iI c82 :: .slice 1 4 0 l88.length :: iI c83 :: iI c84 :: iI c85 :: iI c86 :: .func (.func q87) [.ptr 0 0] [] :: .slice 4 5 0 l89.length :: []) :: .dead :: .dead :: .dead :: .cells (Zk (cI .u8) l88) :: .cells (Zk Q6.cells l89) :: [] : List AObj)) (fun n1 ⟨c81, c82, c83, c84, c85, c86, q87, l88, l89⟩ => Z5 N n1 c81 c82 c83 c84 c85 c86 q87 l88 l89) (x.l.MaxPacket, x.l.MaxDepth, x.from', x.at', x.need, x.e, x.next, (x.kept ++ (chunk.map fun b => (b.toNat : Int))), x.out) h (rho [0, 1, 2, 3, 3, 2]) ⟨(rE rfl <| rX <| rX <| rX <| rX <| rX <| rX <| rX <| rX <| rV <| rN), (hC rfl (rE rfl <| rE rfl <| rL (by first | (simp; done) | (simp [Qq]; done)) rfl <| rE rfl <| rE rfl <| rE rfl <| rE rfl <| rE rfl <| rE rfl <| rN) <| hD <| hD <| hD <| hO rfl <| hO rfl <| hN), rfl, rfl, (roE rfl <| roE rfl <| roE rfl <| roE rfl <| roE (Q2 _ _ _) <| roE (Q2 _ _ _) <| roN)⟩ fun n1 ⟨c81, c82, c83, c84, c85, c86, q87, l88, l89⟩ h => ?_
   simp only [Z5] at h
   rw [cX] at h
   refine fnU h (fun e h => ?_) fun h => ?_
   ·subst e
    refine cG h Wa fun v91 h => ?_
    refine ⟨rho [0, 4, 5], (.cells (iI v91.2.l.MaxPacket :: iI v91.2.l.MaxDepth :: .slice 1 6 0 v91.2.kept.length :: iI v91.2.from' :: iI v91.2.at' :: iI v91.2.need :: iI v91.2.e :: .func (.func v91.2.next) [.ptr 0 0] [] :: .slice 4 7 0 v91.2.out.length :: []) :: .dead :: .dead :: .dead :: .dead :: .dead :: .cells (Zk (cI .u8) v91.2.kept) :: .cells (Zk Q6.cells v91.2.out) :: []), .p (.bool v91.1), ⟨(rE rfl <| rN), (hE rfl <| hO rfl <| hO rfl <| hN), rfl, rfl, (roE rfl <| roE (Q2 _ _ _) <| roE (Q2 _ _ _) <| roN), rfl, (fR 0 rfl rfl rfl rfl <| fD <| fD <| fD <| fD <| fD <| fO 3 rfl rfl rfl <| fO 4 rfl rfl rfl <| fN), rfl⟩, ?_⟩
    apply iU h <;> intro h
    ·show Exists _
     exact ⟨(n1, v91.2.l.MaxPacket, v91.2.l.MaxDepth, v91.2.from', v91.2.at', v91.2.need, v91.2.e, v91.2.next, v91.2.kept, v91.2.out), h, Nat.lt_succ_self _, (rho [0, 1, 2, 3, 6, 7]), ⟨(rE rfl <| rX <| rX <| rX <| rX <| rX <| rX <| rX <| rX <| rV <| rN), (hE rfl <| hD <| hD <| hD <| hO rfl <| hO rfl <| hN), rfl, rfl, (roE rfl <| roE rfl <| roE rfl <| roE rfl <| roE (Q2 _ _ _) <| roE (Q2 _ _ _) <| roN)⟩⟩
    ·apply iU h <;> intro h
     ·refine Q7 ?_
      obtain ⟨hk95, h⟩ := Vr h
      obtain ⟨hk96, h⟩ := Vr h
      refine X1 [0] (r := .slice 1 6 (0 + v91.2.from'.toNat * 1) (v91.2.kept.length - v91.2.from'.toNat)) rfl rfl (fun a ha o ho => ?_) (Zv k38 ?_) ?_
      ·simp only [List.mem_cons, List.mem_nil_iff, or_false] at ha; subst ha; cases ho; rfl
      ·refine Q7 ?_
       refine V5 hk95 ?_
       refine V5 hk96 ?_
       exact ⟨rfl, [], (List.append_nil _).symm⟩
      refine Qbu (l := v91.2.kept) (off := (0 + v91.2.from'.toNat * 1)) (n := (v91.2.kept.length - v91.2.from'.toNat)) (by have e : v91.2.kept.length = (v91.2.kept : List Int).length := (by first | (simp; done) | (simp [Qq]; done)); simp only [Bool.and_eq_true, Nat.ble_eq] at hk96; omega) ?_
      obtain ⟨hk97, h⟩ := Vr h
      refine V5 (Q3h (c := (cI .u8)) (l := (v91.2.kept : List Int)) (fun _ => rfl) (by first | (simp; done) | (simp [Qq]; done)) hk97) ?_
      refine Q7k (c := (cI .u8)) (l := (v91.2.kept : List Int)) (new := (((v91.2.kept : List Int).drop (0 + v91.2.from'.toNat * 1)).take (v91.2.kept.length - v91.2.from'.toNat))) (fun _ => rfl) ?_
      obtain ⟨hk98, h⟩ := Vr h
      refine V5 hk98 ?_
      refine Q7 ?_
      obtain rfl := Qf h
      show Exists _
      exact ⟨(rho [0, 1, 2, 6, 9]), ⟨(rF (Frz.tuple' (.cons (frz_own (c := Q6.cells) (l := (v91.2.out : List Q6)) (fun _ => rfl) rfl rfl (by first | (simp; done) | (simp [Qq]; done))) p1)) <| rN), (hC rfl (rE rfl <| rE rfl <| rL (List.length_take_of_le (l := ((((((v91.2.kept : List Int).drop (0 + v91.2.from'.toNat * 1)).take (v91.2.kept.length - v91.2.from'.toNat)).take v91.2.kept.length) ++ (v91.2.kept : List Int).drop ((((v91.2.kept : List Int).drop (0 + v91.2.from'.toNat * 1)).take (v91.2.kept.length - v91.2.from'.toNat)).take v91.2.kept.length).length) : List Int)) (by have e : v91.2.kept.length = ((((((v91.2.kept : List Int).drop (0 + v91.2.from'.toNat * 1)).take (v91.2.kept.length - v91.2.from'.toNat)).take v91.2.kept.length) ++ (v91.2.kept : List Int).drop ((((v91.2.kept : List Int).drop (0 + v91.2.from'.toNat * 1)).take (v91.2.kept.length - v91.2.from'.toNat)).take v91.2.kept.length).length) : List Int).length := (by simp <;> omega); simp only [Bool.and_eq_true, Nat.ble_eq] at hk98; omega)).symm rfl <| rE rfl <| rE rfl <| rE rfl <| rE rfl <| rE rfl <| rS <| rN) <| hD <| hD <| Qlf (((((v91.2.kept : List Int).drop (0 + v91.2.from'.toNat * 1)).take (v91.2.kept.length - v91.2.from'.toNat)).take v91.2.kept.length).length) rfl <| hV lb <| hN), rfl, rfl, (roE rfl <| roE rfl <| roE rfl <| roE (Q2 _ _ _) <| roE (Q2 _ _ _) <| roN)⟩⟩
     ·refine Q7 ?_
      obtain rfl := Qf h
      show Exists _
      exact ⟨(rho [0, 1, 2, 6, 9]), ⟨(rF (Frz.tuple' (.cons (frz_own (c := Q6.cells) (l := (v91.2.out : List Q6)) (fun _ => rfl) rfl rfl (by first | (simp; done) | (simp [Qq]; done))) p1)) <| rN), (hC rfl (rE rfl <| rE rfl <| rE rfl <| rE rfl <| rE rfl <| rE rfl <| rE rfl <| rE rfl <| rS <| rN) <| hD <| hD <| hO rfl <| hV lb <| hN), rfl, rfl, (roE rfl <| roE rfl <| roE rfl <| roE (Q2 _ _ _) <| roE (Q2 _ _ _) <| roN)⟩⟩
   ·skip
    refine fnU h (fun e h => ?_) fun h => ?_
    ·subst e
     refine cG h We fun v100 h => ?_
     refine ⟨rho [0, 4, 5], (.cells (iI v100.2.l.MaxPacket :: iI v100.2.l.MaxDepth :: .slice 1 6 0 v100.2.kept.length :: iI v100.2.from' :: iI v100.2.at' :: iI v100.2.need :: iI v100.2.e :: .func (.func v100.2.next) [.ptr 0 0] [] :: .slice 4 7 0 v100.2.out.length :: []) :: .dead :: .dead :: .dead :: .dead :: .dead :: .cells (Zk (cI .u8) v100.2.kept) :: .cells (Zk Q6.cells v100.2.out) :: []), .p (.bool v100.1), ⟨(rE rfl <| rN), (hE rfl <| hO rfl <| hO rfl <| hN), rfl, rfl, (roE rfl <| roE (Q2 _ _ _) <| roE (Q2 _ _ _) <| roN), rfl, (fR 0 rfl rfl rfl rfl <| fD <| fD <| fD <| fD <| fD <| fO 3 rfl rfl rfl <| fO 4 rfl rfl rfl <| fN), rfl⟩, ?_⟩
     apply iU h <;> intro h
     ·show Exists _
      exact ⟨(n1, v100.2.l.MaxPacket, v100.2.l.MaxDepth, v100.2.from', v100.2.at', v100.2.need, v100.2.e, v100.2.next, v100.2.kept, v100.2.out), h, Nat.lt_succ_self _, (rho [0, 1, 2, 3, 6, 7]), ⟨(rE rfl <| rX <| rX <| rX <| rX <| rX <| rX <| rX <| rX <| rV <| rN), (hE rfl <| hD <| hD <| hD <| hO rfl <| hO rfl <| hN), rfl, rfl, (roE rfl <| roE rfl <| roE rfl <| roE rfl <| roE (Q2 _ _ _) <| roE (Q2 _ _ _) <| roN)⟩⟩
     ·apply iU h <;> intro h
      ·refine Q7 ?_
       obtain ⟨hk104, h⟩ := Vr h
       obtain ⟨hk105, h⟩ := Vr h
       refine X1 [0] (r := .slice 1 6 (0 + v100.2.from'.toNat * 1) (v100.2.kept.length - v100.2.from'.toNat)) rfl rfl (fun a ha o ho => ?_) (Zv k38 ?_) ?_
       ·simp only [List.mem_cons, List.mem_nil_iff, or_false] at ha; subst ha; cases ho; rfl
       ·refine Q7 ?_
        refine V5 hk104 ?_
        refine V5 hk105 ?_
        exact ⟨rfl, [], (List.append_nil _).symm⟩
       refine Qbu (l := v100.2.kept) (off := (0 + v100.2.from'.toNat * 1)) (n := (v100.2.kept.length - v100.2.from'.toNat)) (by have e : v100.2.kept.length = (v100.2.kept : List Int).length := (by first | (simp; done) | (simp [Qq]; done)); simp only [Bool.and_eq_true, Nat.ble_eq] at hk105; omega) ?_
       obtain ⟨hk106, h⟩ := Vr h
       refine V5 (Q3h (c := (cI .u8)) (l := (v100.2.kept : List Int)) (fun _ => rfl) (by first | (simp; done) | (simp [Qq]; done)) hk106) ?_
       refine Q7k (c := (cI .u8)) (l := (v100.2.kept : List Int)) (new := (((v100.2.kept : List Int).drop (0 + v100.2.from'.toNat * 1)).take (v100.2.kept.length - v100.2.from'.toNat))) (fun _ => rfl) ?_
       obtain ⟨hk107, h⟩ := Vr h
       refine V5 hk107 ?_
       refine Q7 ?_
       obtain rfl := Qf h
       show Exists _
       exact ⟨(rho [0, 1, 2, 6, 9]), ⟨(rF (Frz.tuple' (.cons (frz_own (c := Q6.cells) (l := (v100.2.out : List Q6)) (fun _ => rfl) rfl rfl (by first | (simp; done) | (simp [Qq]; done))) p1)) <| rN), (hC rfl (rE rfl <| rE rfl <| rL (List.length_take_of_le (l := ((((((v100.2.kept : List Int).drop (0 + v100.2.from'.toNat * 1)).take (v100.2.kept.length - v100.2.from'.toNat)).take v100.2.kept.length) ++ (v100.2.kept : List Int).drop ((((v100.2.kept : List Int).drop (0 + v100.2.from'.toNat * 1)).take (v100.2.kept.length - v100.2.from'.toNat)).take v100.2.kept.length).length) : List Int)) (by have e : v100.2.kept.length = ((((((v100.2.kept : List Int).drop (0 + v100.2.from'.toNat * 1)).take (v100.2.kept.length - v100.2.from'.toNat)).take v100.2.kept.length) ++ (v100.2.kept : List Int).drop ((((v100.2.kept : List Int).drop (0 + v100.2.from'.toNat * 1)).take (v100.2.kept.length - v100.2.from'.toNat)).take v100.2.kept.length).length) : List Int).length := (by simp <;> omega); simp only [Bool.and_eq_true, Nat.ble_eq] at hk107; omega)).symm rfl <| rE rfl <| rE rfl <| rE rfl <| rE rfl <| rE rfl <| rS <| rN) <| hD <| hD <| Qlf (((((v100.2.kept : List Int).drop (0 + v100.2.from'.toNat * 1)).take (v100.2.kept.length - v100.2.from'.toNat)).take v100.2.kept.length).length) rfl <| hV lb <| hN), rfl, rfl, (roE rfl <| roE rfl <| roE rfl <| roE (Q2 _ _ _) <| roE (Q2 _ _ _) <| roN)⟩⟩
      ·refine Q7 ?_
       obtain rfl := Qf h
       show Exists _
       exact ⟨(rho [0, 1, 2, 6, 9]), ⟨(rF (Frz.tuple' (.cons (frz_own (c := Q6.cells) (l := (v100.2.out : List Q6)) (fun _ => rfl) rfl rfl (by first | (simp; done) | (simp [Qq]; done))) p1)) <| rN), (hC rfl (rE rfl <| rE rfl <| rE rfl <| rE rfl <| rE rfl <| rE rfl <| rE rfl <| rE rfl <| rS <| rN) <| hD <| hD <| hO rfl <| hV lb <| hN), rfl, rfl, (roE rfl <| roE rfl <| roE rfl <| roE (Q2 _ _ _) <| roE (Q2 _ _ _) <| roN)⟩⟩
    ·skip
     first | (cases h; done) | (simp [Qfl] at h; done)
def Xm (_N : Nat) (x : Q3) : Option ((Int) × Q3) :=
 cond (decide (0 ≤ x.from')) (cond (Nat.ble x.from'.toNat x.kept.length && Nat.ble x.kept.length x.kept.length) (some ((((x.kept.length - x.from'.toNat) : Nat) : Int), x)) none) none
theorem Uh {N} {x} {r} (h : Xm N x = some r) : GC Tryd.prog G1 19 (.ptr 0 0 :: []) (.cells (.p (.int .i64 x.l.MaxPacket) :: .p (.int .i64 x.l.MaxDepth) :: .slice 1 1 0 x.kept.length :: .p (.int .i64 x.from') :: .p (.int .i64 x.at') :: .p (.int .i64 x.need) :: .p (.int .i64 x.e) :: .func (.func x.next) [.ptr 0 0] [] :: .slice 4 2 0 x.out.length :: []) :: .cells (Zk (cI .u8) x.kept) :: .cells (Zk Q6.cells x.out) :: []) (.p (.int .i64 r.1)) (.cells (.p (.int .i64 r.2.l.MaxPacket) :: .p (.int .i64 r.2.l.MaxDepth) :: .slice 1 3 0 r.2.kept.length :: .p (.int .i64 r.2.from') :: .p (.int .i64 r.2.at') :: .p (.int .i64 r.2.need) :: .p (.int .i64 r.2.e) :: .func (.func r.2.next) [.ptr 0 0] [] :: .slice 4 4 0 r.2.out.length :: []) :: .dead :: .dead :: .cells (Zk (cI .u8) r.2.kept) :: .cells (Zk Q6.cells r.2.out) :: []) := by
 refine Jk k19 (Nat.le_of_ble_eq_true rfl) ?_
 unfold Xm at h
 refine Zv k38 ?_
 refine Q7 ?_
 refine kU h fun h => ?_
 refine kU h fun h => ?_
 obtain rfl := Qf h
 show Exists _
 exact ⟨(rho [0, 1, 2, 1, 2]), ⟨(rE rfl <| rN), (hE rfl <| hD <| hD <| hO rfl <| hO rfl <| hN), rfl, rfl, (roE rfl <| roE rfl <| roE rfl <| roE (Q2 _ _ _) <| roE (Q2 _ _ _) <| roN)⟩⟩
def Wh (_N : Nat) : Option (Qa) :=
 some (⟨4096, 6⟩ : Qa)
theorem Jp {N} {r} (h : Wh N = some r) : Xp Tryd.prog G1 21 [] (.agg (Qa.cells r)) := by
 refine Qk k21 ?_
 unfold Wh at h
 obtain rfl := Qf h; exact q2
def Yh (N : Nat) : Option (Bool) :=
 (Wh N).bind fun v1 =>
 (Zw N [] v1).bind fun v3 =>
 cond (Qe .eql v3.2 2)
 (cond (Qe .neq v3.2 0)
 (some false)
 (some false))
 ((Qo N (⟨v1, [], 0, 0, 0, 0, 37, []⟩ : Q3) [0, 0, 0, 8]).bind fun v7 =>
 (Qo N v7.2 [2, 0, 0, 1, 0, 0, 0]).bind fun v12 =>
 cond (Qe .eql v7.1.2 0)
 (cond (Qe .eql v12.1.2 0)
 (cond (Qe .eql ((Qq Q6.cells v7.1.1).length : Int) 0)
 (cond (Qe .eql ((Qq Q6.cells v12.1.1).length : Int) 1)
 ((idx v12.1.1 0).bind fun y18 =>
 cond (Qe .eql y18.Channel 1)
 ((Xm N v12.2).bind fun v21 =>
 some (Qe .eql v21.1 3))
 (some false))
 (some false))
 (some false))
 (some false))
 (some false))
theorem J4 {N} {r} (h : Yh N = some r) : Xp Tryd.prog G1 16 [] (.bool r) := by
 refine Qk k16 ?_
 unfold Yh at h
 rw [cX] at h
 refine cP h Jp p0 fun v1 h => ?_
 refine Zv k17 ?_
 refine cP h Xd (.cons (.p _) (.cons q2 .nil)) fun v3 h => ?_
 apply iU h <;> intro h
 ·apply iU h <;> intro h
  ·cases h; exact (.p _)
  ·cases h; exact (.p _)
 ·refine ifF (cF (by decide)) ?_
  refine cG h Y8 fun v7 h => ?_
  refine ⟨rho [1, 3, 4], (.cells (iI v1.MaxPacket :: iI v1.MaxDepth :: []) :: .cells (iI v7.2.l.MaxPacket :: iI v7.2.l.MaxDepth :: .slice 1 2 0 v7.2.kept.length :: iI v7.2.from' :: iI v7.2.at' :: iI v7.2.need :: iI v7.2.e :: .func (.func v7.2.next) [.ptr 1 0] [] :: .slice 4 3 0 v7.2.out.length :: []) :: .cells (Zk (cI .u8) v7.2.kept) :: .cells (Zk Q6.cells v7.2.out) :: []), .p (.tuple [.slice 4 (Qq Q6.cells v7.1.1), .int .i64 v7.1.2]), ⟨(rE rfl <| rE rfl <| rN), (hC rfl (rE rfl <| rE rfl <| rS <| rE rfl <| rE rfl <| rE rfl <| rE rfl <| rE rfl <| rS <| rN) <| hV lb <| hV lb <| hN), rfl, rfl, (roE rfl <| roE (Q2 _ _ _) <| roE (Q2 _ _ _) <| roN), rfl, (fK rfl rfl <| fR 0 rfl rfl rfl rfl <| fO 3 rfl rfl rfl <| fO 4 rfl rfl rfl <| fN), rfl⟩, ?_⟩
  refine Qhe 4 0 rfl rfl rfl rfl rfl ?_
  refine cG h Y8 fun v12 h => ?_
  refine ⟨rho [1, 2, 3], (.cells (iI v1.MaxPacket :: iI v1.MaxDepth :: []) :: .cells (iI v12.2.l.MaxPacket :: iI v12.2.l.MaxDepth :: .slice 1 4 0 v12.2.kept.length :: iI v12.2.from' :: iI v12.2.at' :: iI v12.2.need :: iI v12.2.e :: .func (.func v12.2.next) [.ptr 1 0] [] :: .slice 4 5 0 v12.2.out.length :: []) :: .dead :: .dead :: .cells (Zk (cI .u8) v12.2.kept) :: .cells (Zk Q6.cells v12.2.out) :: []), .p (.tuple [.slice 4 (Qq Q6.cells v12.1.1), .int .i64 v12.1.2]), ⟨(rE rfl <| rE rfl <| rN), (hE rfl <| hO rfl <| hO rfl <| hN), rfl, rfl, (roE rfl <| roE (Q2 _ _ _) <| roE (Q2 _ _ _) <| roN), rfl, (fK rfl rfl <| fR 0 rfl rfl rfl rfl <| fD <| fD <| fO 3 rfl rfl rfl <| fO 4 rfl rfl rfl <| fN), rfl⟩, ?_⟩
  apply iU h <;> intro h
  ·apply iU h <;> intro h
   ·apply iU h <;> intro h
    ·apply iU h <;> intro h
     ·refine xR h fun y18 h => ?_
      apply iU h <;> intro h
      ·refine cG h Uh fun v21 h => ?_
       refine ⟨rho [1, 4, 5], (.cells (iI v1.MaxPacket :: iI v1.MaxDepth :: []) :: .cells (iI v21.2.l.MaxPacket :: iI v21.2.l.MaxDepth :: .slice 1 6 0 v21.2.kept.length :: iI v21.2.from' :: iI v21.2.at' :: iI v21.2.need :: iI v21.2.e :: .func (.func v21.2.next) [.ptr 1 0] [] :: .slice 4 7 0 v21.2.out.length :: []) :: .dead :: .dead :: .dead :: .dead :: .cells (Zk (cI .u8) v21.2.kept) :: .cells (Zk Q6.cells v21.2.out) :: []), iI v21.1, ⟨(rE rfl <| rN), (hE rfl <| hO rfl <| hO rfl <| hN), rfl, rfl, (roE rfl <| roE (Q2 _ _ _) <| roE (Q2 _ _ _) <| roN), rfl, (fK rfl rfl <| fR 0 rfl rfl rfl rfl <| fD <| fD <| fD <| fD <| fO 3 rfl rfl rfl <| fO 4 rfl rfl rfl <| fN), rfl⟩, ?_⟩
       cases h; exact (.p _)
      ·cases h; exact (.p _)
     ·cases h; exact (.p _)
    ·cases h; exact (.p _)
   ·cases h; exact (.p _)
  ·cases h; exact (.p _)
def Zs (_N : Nat) (x : Q3) : Option ((Int) × Q3) :=
 some (x.at', x)
theorem Wt {N} {x} {r} (h : Zs N x = some r) : GC Tryd.prog G1 20 (.ptr 0 0 :: []) (.cells (.p (.int .i64 x.l.MaxPacket) :: .p (.int .i64 x.l.MaxDepth) :: .slice 1 1 0 x.kept.length :: .p (.int .i64 x.from') :: .p (.int .i64 x.at') :: .p (.int .i64 x.need) :: .p (.int .i64 x.e) :: .func (.func x.next) [.ptr 0 0] [] :: .slice 4 2 0 x.out.length :: []) :: .cells (Zk (cI .u8) x.kept) :: .cells (Zk Q6.cells x.out) :: []) (.p (.int .i64 r.1)) (.cells (.p (.int .i64 r.2.l.MaxPacket) :: .p (.int .i64 r.2.l.MaxDepth) :: .slice 1 3 0 r.2.kept.length :: .p (.int .i64 r.2.from') :: .p (.int .i64 r.2.at') :: .p (.int .i64 r.2.need) :: .p (.int .i64 r.2.e) :: .func (.func r.2.next) [.ptr 0 0] [] :: .slice 4 4 0 r.2.out.length :: []) :: .dead :: .dead :: .cells (Zk (cI .u8) r.2.kept) :: .cells (Zk Q6.cells r.2.out) :: []) := by
 refine Jk k20 (Nat.le_of_ble_eq_true rfl) ?_
 unfold Zs at h
 obtain rfl := Qf h
 show Exists _
 exact ⟨(rho [0, 1, 2, 1, 2]), ⟨(rE rfl <| rN), (hE rfl <| hD <| hD <| hO rfl <| hO rfl <| hN), rfl, rfl, (roE rfl <| roE rfl <| roE rfl <| roE (Q2 _ _ _) <| roE (Q2 _ _ _) <| roN)⟩⟩
def X4 (_N : Nat) (x : Q3) : Option ((Int) × Q3) :=
 some (x.e, x)
theorem Uv {N} {x} {r} (h : X4 N x = some r) : GC Tryd.prog G1 22 (.ptr 0 0 :: []) (.cells (.p (.int .i64 x.l.MaxPacket) :: .p (.int .i64 x.l.MaxDepth) :: .slice 1 1 0 x.kept.length :: .p (.int .i64 x.from') :: .p (.int .i64 x.at') :: .p (.int .i64 x.need) :: .p (.int .i64 x.e) :: .func (.func x.next) [.ptr 0 0] [] :: .slice 4 2 0 x.out.length :: []) :: .cells (Zk (cI .u8) x.kept) :: .cells (Zk Q6.cells x.out) :: []) (.p (.int .i64 r.1)) (.cells (.p (.int .i64 r.2.l.MaxPacket) :: .p (.int .i64 r.2.l.MaxDepth) :: .slice 1 3 0 r.2.kept.length :: .p (.int .i64 r.2.from') :: .p (.int .i64 r.2.at') :: .p (.int .i64 r.2.need) :: .p (.int .i64 r.2.e) :: .func (.func r.2.next) [.ptr 0 0] [] :: .slice 4 4 0 r.2.out.length :: []) :: .dead :: .dead :: .cells (Zk (cI .u8) r.2.kept) :: .cells (Zk Q6.cells r.2.out) :: []) := by
 refine Jk k22 (Nat.le_of_ble_eq_true rfl) ?_
 unfold X4 at h
 obtain rfl := Qf h
 show Exists _
 exact ⟨(rho [0, 1, 2, 1, 2]), ⟨(rE rfl <| rN), (hE rfl <| hD <| hD <| hO rfl <| hO rfl <| hN), rfl, rfl, (roE rfl <| roE rfl <| roE rfl <| roE (Q2 _ _ _) <| roE (Q2 _ _ _) <| roN)⟩⟩
def Yy (N : Nat) (l : Qa) (s_1 : List UInt8) : Option ((List Q6) × Int × Int) :=
 (Zw N [] l).bind fun v1 =>
 cond (Qe .eql v1.2 2)
 (cond (Qe .neq v1.2 0)
 (some ([], 0, v1.2))
 (some ([], 0, 1)))
 ((Qo N (⟨l, [], 0, 0, 0, 0, 37, []⟩ : Q3) s_1).bind fun v5 =>
 (Zs N v5.2).bind fun v7 =>
 some (v5.1.1, v7.1, v5.1.2))
theorem Vt {N} {l} {s_1} {r} (h : Yy N l s_1 = some r) : Xp Tryd.prog G1 23 [.agg (Qa.cells l), .str s_1] (.tuple [.slice 4 (Qq Q6.cells r.1), .int .i64 r.2.1, .int .i64 r.2.2]) := by
 refine Qk k23 ?_
 unfold Yy at h
 rw [cX] at h
 refine Zv k17 ?_
 refine cP h Xd (.cons (.p _) (.cons q2 .nil)) fun v1 h => ?_
 apply iU h <;> intro h
 ·apply iU h <;> intro h
  ·obtain rfl := Qf h; exact (Frz.tuple' (.cons (.nil _) p2))
  ·refine Zv k18 ?_
   refine Zv k20 ?_
   obtain rfl := Qf h; exact (Frz.tuple' (.cons (.nil _) p2))
 ·refine ifF (cF (by decide)) ?_
  refine cG h Y8 fun v5 h => ?_
  refine ⟨rho [2, 4, 5], (.cells (iI l.MaxPacket :: iI l.MaxDepth :: []) :: .cells (iI l.MaxPacket :: iI l.MaxDepth :: []) :: .cells (iI v5.2.l.MaxPacket :: iI v5.2.l.MaxDepth :: .slice 1 3 0 v5.2.kept.length :: iI v5.2.from' :: iI v5.2.at' :: iI v5.2.need :: iI v5.2.e :: .func (.func v5.2.next) [.ptr 2 0] [] :: .slice 4 4 0 v5.2.out.length :: []) :: .cells (Zk (cI .u8) v5.2.kept) :: .cells (Zk Q6.cells v5.2.out) :: []), .p (.tuple [.slice 4 (Qq Q6.cells v5.1.1), .int .i64 v5.1.2]), ⟨(rE rfl <| rE rfl <| rN), (hC rfl (rE rfl <| rE rfl <| rS <| rE rfl <| rE rfl <| rE rfl <| rE rfl <| rE rfl <| rS <| rN) <| hV lb <| hV lb <| hN), rfl, rfl, (roE rfl <| roE (Q2 _ _ _) <| roE (Q2 _ _ _) <| roN), rfl, (fK rfl rfl <| fK rfl rfl <| fR 0 rfl rfl rfl rfl <| fO 3 rfl rfl rfl <| fO 4 rfl rfl rfl <| fN), rfl⟩, ?_⟩
  refine cG h Wt fun v7 h => ?_
  refine ⟨rho [2, 3, 4], (.cells (iI l.MaxPacket :: iI l.MaxDepth :: []) :: .cells (iI l.MaxPacket :: iI l.MaxDepth :: []) :: .cells (iI v7.2.l.MaxPacket :: iI v7.2.l.MaxDepth :: .slice 1 5 0 v7.2.kept.length :: iI v7.2.from' :: iI v7.2.at' :: iI v7.2.need :: iI v7.2.e :: .func (.func v7.2.next) [.ptr 2 0] [] :: .slice 4 6 0 v7.2.out.length :: []) :: .dead :: .dead :: .cells (Zk (cI .u8) v7.2.kept) :: .cells (Zk Q6.cells v7.2.out) :: []), iI v7.1, ⟨(rE rfl <| rN), (hE rfl <| hO rfl <| hO rfl <| hN), rfl, rfl, (roE rfl <| roE (Q2 _ _ _) <| roE (Q2 _ _ _) <| roN), rfl, (fK rfl rfl <| fK rfl rfl <| fR 0 rfl rfl rfl rfl <| fD <| fD <| fO 3 rfl rfl rfl <| fO 4 rfl rfl rfl <| fN), rfl⟩, ?_⟩
  obtain rfl := Qf h; exact u3
def Xa (_N : Nat) (n_0 : Int) (m : Int) : Option (Int) :=
 cond (Qe .lss m 1)
 (some 0)
 (cond (!((m : Int) == 0)) (cond (Qe .lss ((n_0 : Int).tmod m) 0)
 (some (IntKind.wrap .i64 (((n_0 : Int).tmod m) + m)))
 (some ((n_0 : Int).tmod m))) none)
theorem G8 {N} {n_0} {m} {r} (h : Xa N n_0 m = some r) : Xp Tryd.prog G1 39 [.int .i64 n_0, .int .i64 m] (.int .i64 r) := by
 refine Qk k39 ?_
 unfold Xa at h
 rw [cX] at h
 apply iU h <;> intro h
 ·cases h; exact (.p _)
 ·refine kU h fun h => ?_
  apply iU h <;> intro h
  ·cases h; exact (.p _)
  ·cases h; exact (.p _)
def Y5 (N : Nat) (by_1 : List Int) : Nat → (List UInt8) → Int → (List (List UInt8)) → Option (List (List UInt8))
 | 0, _, _, _ => none
 | n + 1, s21, i22, l23 =>
  cond (Qe .lss i22 ((Qq (cI .i64) by_1).length : Int))
  ((idx by_1 i22).bind fun y25 =>
  (Xa N y25 (IntKind.wrap .i64 ((s21.length : Int) + 1))).bind fun v27 =>
  cond (decide (0 ≤ v27)) (cond (Nat.ble 0 v27.toNat && Nat.ble v27.toNat s21.length) (cond (Nat.ble ((l23.length + 1 + 4096) * 16) 17592186044416) (cond (Nat.ble v27.toNat s21.length && Nat.ble s21.length s21.length) (Y5 N by_1 n ((s21.take s21.length).drop v27.toNat) (IntKind.wrap .i64 (i22 + 1)) (l23 ++ [((s21.take v27.toNat).drop 0)])) none) none) none) none)
  (cond (Nat.ble ((l23.length + 1 + 4096) * 16) 17592186044416) (some (l23 ++ [s21])) none)
def Yw (N : Nat) (s_0 : List UInt8) (by_1 : List Int) : Option (List (List UInt8)) :=
 Y5 N by_1 N s_0 0 []
theorem Vq {N} {s_0} {by_1} {r} (h : Yw N s_0 by_1 = some r) : Xp Tryd.prog G1 24 [.str s_0, .slice 1 (Qq (cI .i64) by_1)] (.slice 1 (Qq cS r)) := by
 refine Qk k24 ?_
 unfold Yw at h
 refine lpC (τ := (List UInt8) × Int × (List (List UInt8))) (fun ⟨s21, i22, l23⟩ => (iS s21 :: .p (.slice 1 (Qq (cI .i64) by_1)) :: a2 (.any :: .slice 1 0 0 l23.length :: iI i22 :: a16 (a8 (a4 ([])))) : List AV)) (fun ⟨_, _, l23⟩ => (.cells (Zk cS l23) :: [] : List AObj)) (fun n0 ⟨s21, i22, l23⟩ => Y5 N by_1 n0 s21 i22 l23) (s_0, 0, []) h (fun i => i) ⟨(rE rfl <| rE rfl <| rW <| rA <| rS <| rE rfl <| rX <| rX <| rX <| rV <| rN), (hV lb <| hN), rfl, rfl, (roE (Q2 _ _ _) <| roN)⟩ fun n0 ⟨s21, i22, l23⟩ h => ?_
 simp only [Y5] at h
 rw [cX] at h
 apply iU h <;> intro h
 ·refine xR h fun y25 h => ?_
  refine cP h G8 p2 fun v27 h => ?_
  refine Q7 ?_
  obtain ⟨hk29, h⟩ := Vr h
  refine V5 hk29 ?_
  refine kU h fun h => ?_
  obtain ⟨hk31, h⟩ := Vr h
  refine V5 (Xg (c := cS) (e := 1) (fun _ => rfl) (by first | (simp; done) | (simp [Qq]; done)) hk31) ?_
  refine Wr (c := cS) [((s21.take v27.toNat).drop 0)] rfl ?_
  refine V5 hk29 ?_
  refine kU h fun h => ?_
  show Exists _
  exact ⟨(n0, ((s21.take s21.length).drop v27.toNat), (IntKind.wrap .i64 (i22 + 1)), (l23 ++ [((s21.take v27.toNat).drop 0)])), h, Nat.lt_succ_self _, (rho [2]), ⟨(rE rfl <| rE rfl <| rW <| rA <| rL (by first | (simp; done) | (simp [Qq]; done)) rfl <| rE rfl <| rX <| rX <| rX <| rV <| rN), (hO rfl <| hN), rfl, rfl, (roE (Q2 _ _ _) <| roN)⟩⟩
 ·obtain ⟨hk33, h⟩ := Vr h
  refine V5 (Xg (c := cS) (e := 1) (fun _ => rfl) (by first | (simp; done) | (simp [Qq]; done)) hk33) ?_
  refine Wr (c := cS) [s21] rfl ?_
  obtain rfl := Qf h; exact (frz_own (c := cS) (l := ((l23 ++ [s21]) : List (List UInt8))) (fun _ => rfl) rfl trivial (by first | (simp; done) | (simp [Qq]; done)))
def Z0 (N : Nat) (a : Q6) (b : Q6) : Nat → Int → Option (Bool)
 | 0, _ => none
 | n + 1, i22 =>
  cond (Qe .lss i22 ((Q0.rows a.Values).length : Int))
  ((idx a.Values i22).bind fun y24 =>
  (idx b.Values i22).bind fun y26 =>
  (Zg N y24 y26).bind fun v28 =>
  cond (!v28)
  (some false)
  (Z0 N a b n (IntKind.wrap .i64 (i22 + 1))))
  (some true)
def Y4 (N : Nat) (a : Q6) (b : Q6) : Option (Bool) :=
 cond (Qe .neq a.Type' b.Type')
 (some false)
 (cond (Qe .neq a.Channel b.Channel)
 (some false)
 (cond (Q5s .neq a.Ext b.Ext)
 (some false)
 (cond (Qe .neq ((Q0.rows a.Values).length : Int) ((Q0.rows b.Values).length : Int))
 (some false)
 (Z0 N a b N 0))))
theorem Uk {N} {a} {b} {r} (h : Y4 N a b = some r) : Xp Tryd.prog G1 40 [.agg (Q6.cells a), .agg (Q6.cells b)] (.bool r) := by
 refine Qk k40 ?_
 unfold Y4 at h
 rw [cX, cY] at h
 apply iU h <;> intro h
 ·cases h; exact (.p _)
 ·apply iU h <;> intro h
  ·cases h; exact (.p _)
  ·apply iU h <;> intro h
   ·cases h; exact (.p _)
   ·apply iU h <;> intro h
    ·cases h; exact (.p _)
    ·refine lpC (τ := Int) (fun i22 => (.any :: .any :: .ptr 0 0 :: .ptr 1 0 :: .any :: iI i22 :: a16 (a16 (a8 (a4 (a2 (.any :: []))))) : List AV)) (fun _ => (.cells (iI a.Type' :: iI a.Channel :: iS a.Ext :: .p (.slice 4 (Q0.rows a.Values)) :: []) :: .cells (iI b.Type' :: iI b.Channel :: iS b.Ext :: .p (.slice 4 (Q0.rows b.Values)) :: []) :: [] : List AObj)) (fun n0 i22 => Z0 N a b n0 i22) (0) h (fun i => i) ⟨(rW <| rE rfl <| rE rfl <| rA <| rE rfl <| rX <| rX <| rX <| rX <| rX <| rV <| rW <| rA <| rN), (hE rfl <| hE rfl <| hN), rfl, rfl, (roE rfl <| roE rfl <| roN)⟩ fun n0 i22 h => ?_
     simp only [Z0] at h
     rw [cX] at h
     apply iU h <;> intro h
     ·refine Q7 ?_
      refine Q0.xR h fun y24 h => ?_
      refine Q0.xR h fun y26 h => ?_
      refine cD h Uj (.cons q4 (.cons q4 .nil)) fun v28 h => ?_
      apply iU h <;> intro h
      ·cases h; exact (.p _)
      ·show Exists _
       exact ⟨(n0, (IntKind.wrap .i64 (i22 + 1))), h, Nat.lt_succ_self _, (fun i => i), ⟨(rW <| rE rfl <| rE rfl <| rA <| rE rfl <| rX <| rX <| rX <| rX <| rX <| rV <| rW <| rA <| rN), (hE rfl <| hE rfl <| hN), rfl, rfl, (roE rfl <| roE rfl <| roN)⟩⟩
     ·cases h; exact (.p _)
def Zd (N : Nat) (a : List Q6) (b : List Q6) : Nat → Int → Option (Bool)
 | 0, _ => none
 | n + 1, i19 =>
  cond (Qe .lss i19 ((Qq Q6.cells a).length : Int))
  ((idx a i19).bind fun y21 =>
  (idx b i19).bind fun y23 =>
  (Y4 N y21 y23).bind fun v25 =>
  cond (!v25)
  (some false)
  (Zd N a b n (IntKind.wrap .i64 (i19 + 1))))
  (some true)
def Zp (N : Nat) (a : List Q6) (b : List Q6) : Option (Bool) :=
 cond (Qe .neq ((Qq Q6.cells a).length : Int) ((Qq Q6.cells b).length : Int))
 (some false)
 (Zd N a b N 0)
theorem W2 {N} {a} {b} {r} (h : Zp N a b = some r) : Xp Tryd.prog G1 25 [.slice 4 (Qq Q6.cells a), .slice 4 (Qq Q6.cells b)] (.bool r) := by
 refine Qk k25 ?_
 unfold Zp at h
 rw [cX] at h
 apply iU h <;> intro h
 ·cases h; exact (.p _)
 ·refine lpC (τ := Int) (fun i19 => (.p (.slice 4 (Qq Q6.cells a)) :: .p (.slice 4 (Qq Q6.cells b)) :: a2 (.any :: iI i19 :: a16 (a4 (.any :: []))) : List AV)) (fun _ => ([] : List AObj)) (fun n0 i19 => Zd N a b n0 i19) (0) h (fun i => i) ⟨(rE rfl <| rE rfl <| rW <| rA <| rE rfl <| rX <| rX <| rV <| rA <| rN), (hN), rfl, rfl, (roN)⟩ fun n0 i19 h => ?_
  simp only [Zd] at h
  rw [cX] at h
  apply iU h <;> intro h
  ·refine Q7 ?_
   refine xR h fun y21 h => ?_
   refine xR h fun y23 h => ?_
   refine cD h Uk (.cons q4 (.cons q4 .nil)) fun v25 h => ?_
   apply iU h <;> intro h
   ·cases h; exact (.p _)
   ·show Exists _
    exact ⟨(n0, (IntKind.wrap .i64 (i19 + 1))), h, Nat.lt_succ_self _, (fun i => i), ⟨(rE rfl <| rE rfl <| rW <| rA <| rE rfl <| rX <| rX <| rV <| rA <| rN), (hN), rfl, rfl, (roN)⟩⟩
  ·cases h; exact (.p _)
end
end
end Go.Av
