/- The law. Part of a proof of a given statement: for every input the law returns true and the arguments read as before; no condition beyond the given row. -/
import Derived.Test.YtkemhhfbpniioaaGreatDoorLiftF4
namespace Go.Av
noncomputable section
open Go.Proofs
set_option maxRecDepth 100000
set_option maxHeartbeats 4000000
attribute [local irreducible] Gc V2 Q9e Qau Q5 Q3q Qce
section
def U9 (_N : Nat) (l : Qw) : Option (Bool) :=
 cond (Q5 .geq l.MaxPacket 16)
 (cond (Q5 .leq l.MaxPacket 1048576)
 (cond (Q5 .geq l.MaxDepth 0)
 (some (Q5 .leq l.MaxDepth 32))
 (some false))
 (some false))
 (some false)
theorem Q1h {N} {l} {r} (h : U9 N l = some r) : Z0 Tryz.prog G1 81 [.agg (Qw.cells l)] (.bool r) := by
 refine Q3 k81 ?_
 unfold U9 at h
 apply iU h <;> intro h
 ·apply iU h <;> intro h
  ·apply iU h <;> intro h
   ·cases h; exact (.p _)
   ·cases h; exact (.p _)
  ·cases h; exact (.p _)
 ·cases h; exact (.p _)
def Yh (N : Nat) (f : Qf) (l : Qw) : Nat → Int → Option (Int)
 | 0, _ => none
 | n + 1, i24 =>
  cond (Q5 .lss i24 ((Q0.rows f.Values).length : Int))
  ((idx f.Values i24).bind fun y26 =>
  (Xq N y26 l.MaxDepth).bind fun v28 =>
  cond (Q5 .neq v28 0)
  (some v28)
  (Yh N f l n (IntKind.wrap .i64 (i24 + 1))))
  ((Xu N f l.MaxDepth).bind fun v31 =>
  cond (Q5 .gtr (v31.length : Int) l.MaxPacket)
  (some 4)
  (some 0))
def Yf (N : Nat) (f : Qf) (l : Qw) : Nat → Int → Option (Int)
 | 0, _ => none
 | n + 1, i52 =>
  cond (Q5 .lss i52 ((Q0.rows f.Values).length : Int))
  ((idx f.Values i52).bind fun y54 =>
  (Xq N y54 l.MaxDepth).bind fun v56 =>
  cond (Q5 .neq v56 0)
  (some v56)
  (Yf N f l n (IntKind.wrap .i64 (i52 + 1))))
  ((Xu N f l.MaxDepth).bind fun v59 =>
  cond (Q5 .gtr (v59.length : Int) l.MaxPacket)
  (some 4)
  (some 0))
def V7 (N : Nat) (f : Qf) (l : Qw) : Option (Int) :=
 (U9 N l).bind fun v1 =>
 cond (!v1)
 (some 2)
 (cond (Q5 .neq f.Type' 0)
 (cond (Q5 .neq f.Type' 1)
 (some 8)
 (cond (Q5 .lss f.Channel 0)
 (some 2)
 (cond (Q5 .gtr f.Channel 65535)
 (some 2)
 (cond (Q5 .neq (((f.Ext.length : Int) : Int).tmod 4) 0)
 (some 2)
 (cond (Q5 .gtr (f.Ext.length : Int) 1012)
 (some 2)
 (cond (Q5 .gtr ((Q0.rows f.Values).length : Int) 1000)
 (some 4)
 (Yh N f l N 0)))))))
 (cond (Q5 .lss f.Channel 0)
 (some 2)
 (cond (Q5 .gtr f.Channel 65535)
 (some 2)
 (cond (Q5 .neq (((f.Ext.length : Int) : Int).tmod 4) 0)
 (some 2)
 (cond (Q5 .gtr (f.Ext.length : Int) 1012)
 (some 2)
 (cond (Q5 .gtr ((Q0.rows f.Values).length : Int) 1000)
 (some 4)
 (Yf N f l N 0)))))))
theorem Q1g {N} {f} {l} {r} (h : V7 N f l = some r) : Z0 Tryz.prog G1 48 [.agg (Qf.cells f), .agg (Qw.cells l)] (.int .i64 r) := by
 refine Q3 k48 ?_
 unfold V7 at h
 refine cP h Q1h (.cons q2 .nil) fun v1 h => ?_
 apply iU h <;> intro h
 ·cases h; exact (.p _)
 ·apply iU h <;> intro h
  ·apply iU h <;> intro h
   ·cases h; exact (.p _)
   ·apply iU h <;> intro h
    ·cases h; exact (.p _)
    ·apply iU h <;> intro h
     ·cases h; exact (.p _)
     ·apply iU h <;> intro h
      ·cases h; exact (.p _)
      ·apply iU h <;> intro h
       ·cases h; exact (.p _)
       ·apply iU h <;> intro h
        ·cases h; exact (.p _)
        ·refine lpC (τ := Int) (fun i24 => (.any :: .any :: .ptr 0 0 :: .ptr 1 0 :: .any :: iI i24 :: a16 (a16 (a16 (a16 (a2 (.any :: []))))) : List AV)) (fun _ => (.cells (iI f.Type' :: iI f.Channel :: iS f.Ext :: .p (.slice 4 (Q0.rows f.Values)) :: []) :: .cells (iI l.MaxPacket :: iI l.MaxDepth :: []) :: [] : List AObj)) (fun n0 i24 => Yh N f l n0 i24) (0) h (fun i => i) ⟨(rW <| rE rfl <| rE rfl <| rA <| rE rfl <| rX <| rX <| rX <| rX <| rX <| rX <| rX <| rX <| rW <| rA <| rN), (hE rfl <| hE rfl <| hN), rfl, rfl, (roE rfl <| roE rfl <| roN)⟩ fun n0 i24 h => ?_
         simp only [Yh] at h
         apply iU h <;> intro h
         ·refine Qe ?_
          refine Q0.xR h fun y26 h => ?_
          refine cD h Gn (.cons q4 p1) fun v28 h => ?_
          apply iU h <;> intro h
          ·cases h; exact (.p _)
          ·show Exists _
           exact ⟨(n0, (IntKind.wrap .i64 (i24 + 1))), h, Nat.lt_succ_self _, (fun i => i), ⟨(rW <| rE rfl <| rE rfl <| rA <| rE rfl <| rX <| rX <| rX <| rX <| rX <| rX <| rX <| rX <| rW <| rA <| rN), (hE rfl <| hE rfl <| hN), rfl, rfl, (roE rfl <| roE rfl <| roN)⟩⟩
         ·refine Qe ?_
          refine cD h Gi (.cons q4 p1) fun v31 h => ?_
          apply iU h <;> intro h
          ·cases h; exact (.p _)
          ·cases h; exact (.p _)
  ·apply iU h <;> intro h
   ·cases h; exact (.p _)
   ·apply iU h <;> intro h
    ·cases h; exact (.p _)
    ·apply iU h <;> intro h
     ·cases h; exact (.p _)
     ·apply iU h <;> intro h
      ·cases h; exact (.p _)
      ·apply iU h <;> intro h
       ·cases h; exact (.p _)
       ·refine lpC (τ := Int) (fun i52 => (.any :: .any :: .ptr 0 0 :: .ptr 1 0 :: .any :: iI i52 :: a16 (a16 (a16 (a16 (a2 (.any :: []))))) : List AV)) (fun _ => (.cells (iI f.Type' :: iI f.Channel :: iS f.Ext :: .p (.slice 4 (Q0.rows f.Values)) :: []) :: .cells (iI l.MaxPacket :: iI l.MaxDepth :: []) :: [] : List AObj)) (fun n1 i52 => Yf N f l n1 i52) (0) h (fun i => i) ⟨(rW <| rE rfl <| rE rfl <| rA <| rE rfl <| rX <| rX <| rX <| rX <| rX <| rX <| rX <| rX <| rW <| rA <| rN), (hE rfl <| hE rfl <| hN), rfl, rfl, (roE rfl <| roE rfl <| roN)⟩ fun n1 i52 h => ?_
        simp only [Yf] at h
        apply iU h <;> intro h
        ·refine Qe ?_
         refine Q0.xR h fun y54 h => ?_
         refine cD h Gn (.cons q4 p1) fun v56 h => ?_
         apply iU h <;> intro h
         ·cases h; exact (.p _)
         ·show Exists _
          exact ⟨(n1, (IntKind.wrap .i64 (i52 + 1))), h, Nat.lt_succ_self _, (fun i => i), ⟨(rW <| rE rfl <| rE rfl <| rA <| rE rfl <| rX <| rX <| rX <| rX <| rX <| rX <| rX <| rX <| rW <| rA <| rN), (hE rfl <| hE rfl <| hN), rfl, rfl, (roE rfl <| roE rfl <| roN)⟩⟩
        ·refine Qe ?_
         refine cD h Gi (.cons q4 p1) fun v59 h => ?_
         apply iU h <;> intro h
         ·cases h; exact (.p _)
         ·cases h; exact (.p _)
def Ub (N : Nat) (f : Qf) (l : Qw) : Option ((List UInt8) × Int) :=
 (V7 N f l).bind fun v1 =>
 cond (Q5 .neq v1 0)
 (some ([], v1))
 ((Xu N f l.MaxDepth).bind fun v4 =>
 some (v4, 0))
theorem Q5f {N} {f} {l} {r} (h : Ub N f l = some r) : Z0 Tryz.prog G1 45 [.agg (Qf.cells f), .agg (Qw.cells l)] (.tuple [.str r.1, .int .i64 r.2]) := by
 refine Q3 k45 ?_
 unfold Ub at h
 refine cP h Q1g (.cons q4 (.cons q2 .nil)) fun v1 h => ?_
 apply iU h <;> intro h
 ·obtain rfl := Q8 h; exact u2
 ·refine cP h Gi (.cons q4 p1) fun v4 h => ?_
  obtain rfl := Q8 h; exact u2
def Vn (N : Nat) (s_0 : List UInt8) (l : Qw) : Option (Int × Int) :=
 (U9 N l).bind fun v1 =>
 cond (!v1)
 (some (0, 2))
 (cond (Q5 .lss (s_0.length : Int) 8)
 (some (0, 3))
 (cond (Nat.ble 0 4 && Nat.ble 4 s_0.length) ((Zd N ((s_0.take 4).drop 0)).bind fun v6 =>
 cond (Q5 .gtr v6 (IntKind.wrap .u64 l.MaxPacket))
 (some (0, 4))
 (cond (Q5 .lss v6 8)
 (some (0, 5))
 ((idx s_0 4).bind fun b10 =>
 cond (Q5 .lss (b10.toNat : Int) 2)
 (some (0, 5))
 ((idx s_0 4).bind fun b13 =>
 cond (Q5 .gtr (IntKind.wrap .u64 (4 * (IntKind.wrap .u64 (b13.toNat : Int)))) v6)
 (some (0, 5))
 ((idx s_0 5).bind fun b16 =>
 cond (Q5 .neq (IntKind.wrap .i64 (b16.toNat : Int)) 0)
 ((idx s_0 5).bind fun b19 =>
 cond (Q5 .neq (IntKind.wrap .i64 (b19.toNat : Int)) 1)
 (some (0, 8))
 (some ((IntKind.wrap .i64 v6), 0)))
 (some ((IntKind.wrap .i64 v6), 0))))))) none))
theorem Q1w {N} {s_0} {l} {r} (h : Vn N s_0 l = some r) : Z0 Tryz.prog G1 46 [.str s_0, .agg (Qw.cells l)] (.tuple [.int .i64 r.1, .int .i64 r.2]) := by
 refine Q3 k46 ?_
 unfold Vn at h
 refine cP h Q1h (.cons q2 .nil) fun v1 h => ?_
 apply iU h <;> intro h
 ·obtain rfl := Q8 h; exact u2
 ·apply iU h <;> intro h
  ·obtain rfl := Q8 h; exact u2
  ·refine kU h fun h => ?_
   refine cP h Yv p1 fun v6 h => ?_
   apply iU h <;> intro h
   ·obtain rfl := Q8 h; exact u2
   ·apply iU h <;> intro h
    ·obtain rfl := Q8 h; exact u2
    ·refine xB h fun b10 h => ?_
     apply iU h <;> intro h
     ·obtain rfl := Q8 h; exact u2
     ·refine xB h fun b13 h => ?_
      apply iU h <;> intro h
      ·obtain rfl := Q8 h; exact u2
      ·refine xB h fun b16 h => ?_
       apply iU h <;> intro h
       ·refine xB h fun b19 h => ?_
        apply iU h <;> intro h
        ·obtain rfl := Q8 h; exact u2
        ·obtain rfl := Q8 h; exact u2
       ·obtain rfl := Q8 h; exact u2
def Xx (N : Nat) (s_0 : List UInt8) (l : Qw) (v1 : Int × Int) (b5 : UInt8) (b7 : UInt8) (v10 : Int) : Nat → (List UInt8) → (List Q0) → Option (Qf × Int × Int)
 | 0, _, _ => none
 | n + 1, body34, l35 =>
  cond (Q3q .neq body34 [])
  (cond (Q5 .eql (l35.length : Int) 1000)
  (some ((⟨0, 0, [], []⟩ : Qf), 0, 4))
  ((Zh N body34 l.MaxDepth).bind fun v38 =>
  cond (Q5 .eql v38.2.2 3)
  (some ((⟨0, 0, [], []⟩ : Qf), 0, 5))
  (cond (Q5 .neq v38.2.2 0)
  (some ((⟨0, 0, [], []⟩ : Qf), 0, v38.2.2))
  (cond (Nat.ble ((l35.length + 1 + 4096) * 56) 17592186044416) (cond (decide (0 ≤ v38.2.1)) (cond (Nat.ble v38.2.1.toNat body34.length && Nat.ble body34.length body34.length) (Xx N s_0 l v1 b5 b7 v10 n ((body34.take body34.length).drop v38.2.1.toNat) (l35 ++ [v38.1])) none) none) none))))
  (some ((⟨(IntKind.wrap .i64 (b7.toNat : Int)), (IntKind.wrap .i64 v10), ((s_0.take ((IntKind.wrap .i64 (4 * (IntKind.wrap .i64 (b5.toNat : Int)))).toNat)).drop 8), l35⟩ : Qf), v1.1, 0))
def J6 (N : Nat) (s_0 : List UInt8) (l : Qw) : Option (Qf × Int × Int) :=
 (Vn N s_0 l).bind fun v1 =>
 cond (Q5 .neq v1.2 0)
 (some ((⟨0, 0, [], []⟩ : Qf), 0, v1.2))
 (cond (Q5 .lss (s_0.length : Int) v1.1)
 (some ((⟨0, 0, [], []⟩ : Qf), 0, 3))
 ((idx s_0 4).bind fun b5 =>
 (idx s_0 5).bind fun b7 =>
 cond (Nat.ble 6 8 && Nat.ble 8 s_0.length) ((Zd N ((s_0.take 8).drop 6)).bind fun v10 =>
 cond (decide (0 ≤ (IntKind.wrap .i64 (4 * (IntKind.wrap .i64 (b5.toNat : Int)))))) (cond (Nat.ble 8 ((IntKind.wrap .i64 (4 * (IntKind.wrap .i64 (b5.toNat : Int)))).toNat) && Nat.ble ((IntKind.wrap .i64 (4 * (IntKind.wrap .i64 (b5.toNat : Int)))).toNat) s_0.length) (cond (decide (0 ≤ v1.1)) (cond (Nat.ble (IntKind.wrap .i64 (4 * (IntKind.wrap .i64 (b5.toNat : Int)))).toNat v1.1.toNat && Nat.ble v1.1.toNat s_0.length) (Xx N s_0 l v1 b5 b7 v10 N ((s_0.take v1.1.toNat).drop ((IntKind.wrap .i64 (4 * (IntKind.wrap .i64 (b5.toNat : Int)))).toNat)) []) none) none) none) none) none))
theorem Q6m {N} {s_0} {l} {r} (h : J6 N s_0 l = some r) : Z0 Tryz.prog G1 47 [.str s_0, .agg (Qw.cells l)] (.tuple [.agg (Qf.cells r.1), .int .i64 r.2.1, .int .i64 r.2.2]) := by
 refine Q3 k47 ?_
 unfold J6 at h
 refine cP h Q1w (.cons (.p _) (.cons q2 .nil)) fun v1 h => ?_
 apply iU h <;> intro h
 ·obtain rfl := Q8 h; exact (Frz.tuple' (.cons q4n p2))
 ·apply iU h <;> intro h
  ·obtain rfl := Q8 h; exact (Frz.tuple' (.cons q4n p2))
  ·refine xB h fun b5 h => ?_
   refine Qe ?_
   refine xB h fun b7 h => ?_
   refine kU h fun h => ?_
   refine cD h Yv p1 fun v10 h => ?_
   obtain ⟨hk12, h⟩ := Q38 h
   refine Q2a hk12 ?_
   refine kU h fun h => ?_
   refine Q2a hk12 ?_
   refine kU h fun h => ?_
   refine kU h fun h => ?_
   refine lpC (τ := (List UInt8) × (List Q0)) (fun ⟨body34, _⟩ => (a2 (.any :: .ptr 0 0 :: .ptr 1 0 :: .any :: .any :: iI v1.1 :: .any :: .any :: .ptr 2 0 :: iS body34 :: a16 (a16 (a16 (a16 (a4 (.any :: [])))))) : List AV)) (fun ⟨_, l35⟩ => (.cells (iI l.MaxPacket :: iI l.MaxDepth :: []) :: .cells (iI 0 :: iI 0 :: iS [] :: .p .nilSlice :: []) :: .cells (iI (IntKind.wrap .i64 (b7.toNat : Int)) :: iI (IntKind.wrap .i64 v10) :: .p (.str ((s_0.take ((IntKind.wrap .i64 (4 * (IntKind.wrap .i64 (b5.toNat : Int)))).toNat)).drop 8)) :: .slice 4 3 0 l35.length :: []) :: .cells (Xj Q0.cells l35) :: [] : List AObj)) (fun n0 ⟨body34, l35⟩ => Xx N s_0 l v1 b5 b7 v10 n0 body34 l35) (((s_0.take v1.1.toNat).drop ((IntKind.wrap .i64 (4 * (IntKind.wrap .i64 (b5.toNat : Int)))).toNat)), []) h (fun i => i) ⟨(rW <| rA <| rE rfl <| rE rfl <| rW <| rE rfl <| rW <| rE rfl <| rE rfl <| rX <| rX <| rX <| rX <| rX <| rX <| rX <| rX <| rV <| rA <| rN), (hE rfl <| hE rfl <| hC rfl (rE rfl <| rE rfl <| rE rfl <| rS <| rN) <| hV lb <| hN), rfl, rfl, (roE rfl <| roE rfl <| roE rfl <| roE (Q9 _ _ _) <| roN)⟩ fun n0 ⟨body34, l35⟩ h => ?_
   simp only [Xx] at h
   apply iU h <;> intro h
   ·apply iU h <;> intro h
    ·obtain rfl := Q8 h; exact (Frz.tuple' (.cons q4n p2))
    ·refine cP h Q5p p2 fun v38 h => ?_
     apply iU h <;> intro h
     ·refine ifT (by unfold Q5; decide) ?_
      obtain rfl := Q8 h; exact (Frz.tuple' (.cons q4n p2))
     ·apply iU h <;> intro h
      ·obtain rfl := Q8 h; exact (Frz.tuple' (.cons q4n p2))
      ·refine Qe ?_
       obtain ⟨hk42, h⟩ := Q38 h
       refine Q2a (X6 (c := Q0.cells) (e := 4) (fun _ => rfl) (by simp) hk42) ?_
       refine Vt (c := Q0.cells) [v38.1] rfl ?_
       refine kU h fun h => ?_
       refine kU h fun h => ?_
       show Exists _
       exact ⟨(n0, ((body34.take body34.length).drop v38.2.1.toNat), (l35 ++ [v38.1])), h, Nat.lt_succ_self _, (rho [0, 1, 2, 6]), ⟨(rW <| rA <| rE rfl <| rE rfl <| rW <| rE rfl <| rW <| rE rfl <| rE rfl <| rX <| rX <| rX <| rX <| rX <| rX <| rX <| rX <| rV <| rA <| rN), (hE rfl <| hE rfl <| hC rfl (rE rfl <| rE rfl <| rE rfl <| rL (by simp) rfl <| rN) <| hO rfl <| hN), rfl, rfl, (roE rfl <| roE rfl <| roE rfl <| roE (Q9 _ _ _) <| roN)⟩⟩
   ·obtain rfl := Q8 h; exact (Frz.tuple' (.cons (Frz.agg' (.cons (.p _) (.cons (.p _) (.cons (.p _) (.cons (Q0.frz_own (l := l35) rfl trivial (by simp)) .nil))))) p2))
def Us (N : Nat) (f : Qf) : Nat → Int → (List Q0) → Option (Qf)
 | 0, _, _ => none
 | n + 1, s14, l15 =>
  cond (Q5 .lss s14 ((Q0.rows f.Values).length : Int))
  ((idx f.Values s14).bind fun y17 =>
  (Ws N y17).bind fun v19 =>
  cond (Nat.ble ((l15.length + 1 + 4096) * 56) 17592186044416) (Us N f n (IntKind.wrap .i64 (s14 + 1)) (l15 ++ [v19])) none)
  (some (⟨f.Type', f.Channel, f.Ext, l15⟩ : Qf))
def Q0l (N : Nat) (f : Qf) : Option (Qf) :=
 Us N f N 0 []
theorem Q9x {N} {f} {r} (h : Q0l N f = some r) : Z0 Tryz.prog G1 49 [.agg (Qf.cells f)] (.agg (Qf.cells r)) := by
 refine Q3 k49 ?_
 unfold Q0l at h
 refine lpC (τ := Int × (List Q0)) (fun ⟨s14, _⟩ => (.any :: .any :: .ptr 1 0 :: .ptr 2 0 :: a8 (a2 (.p (.slice 4 (Q0.rows f.Values)) :: iI ((Q0.rows f.Values).length : Int) :: iI s14 :: a8 (a4 ([])))) : List AV)) (fun ⟨_, l15⟩ => (.cells (iI f.Type' :: iI f.Channel :: iS f.Ext :: .p (.slice 4 (Q0.rows f.Values)) :: []) :: .cells (iI 0 :: iI 0 :: iS [] :: .p .nilSlice :: []) :: .cells (iI f.Type' :: iI f.Channel :: iS f.Ext :: .slice 4 3 0 l15.length :: []) :: .cells (Xj Q0.cells l15) :: [] : List AObj)) (fun n0 ⟨s14, l15⟩ => Us N f n0 s14 l15) (0, []) h (fun i => i) ⟨(rW <| rE rfl <| rE rfl <| rX <| rW <| rE rfl <| rE rfl <| rE rfl <| rX <| rV <| rN), (hE rfl <| hE rfl <| hC rfl (rE rfl <| rE rfl <| rE rfl <| rS <| rN) <| hV lb <| hN), rfl, rfl, (roE rfl <| roE rfl <| roE rfl <| roE (Q9 _ _ _) <| roN)⟩ fun n0 ⟨s14, l15⟩ h => ?_
 simp only [Us] at h
 apply iU h <;> intro h
 ·refine Q0.xR h fun y17 h => ?_
  refine Qe ?_
  refine cD h Q1s (.cons q4 .nil) fun v19 h => ?_
  obtain ⟨hk21, h⟩ := Q38 h
  refine Q2a (X6 (c := Q0.cells) (e := 4) (fun _ => rfl) (by simp) hk21) ?_
  refine Vt (c := Q0.cells) [v19] rfl ?_
  show Exists _
  exact ⟨(n0, (IntKind.wrap .i64 (s14 + 1)), (l15 ++ [v19])), h, Nat.lt_succ_self _, (rho [0, 1, 2, 6]), ⟨(rW <| rE rfl <| rE rfl <| rX <| rW <| rE rfl <| rE rfl <| rE rfl <| rX <| rV <| rN), (hE rfl <| hE rfl <| hC rfl (rE rfl <| rE rfl <| rE rfl <| rL (by simp) rfl <| rN) <| hO rfl <| hN), rfl, rfl, (roE rfl <| roE rfl <| roE rfl <| roE (Q9 _ _ _) <| roN)⟩⟩
 ·obtain rfl := Q8 h; exact (Frz.agg' (.cons (.p _) (.cons (.p _) (.cons (.p _) (.cons (Q0.frz_own (l := l15) rfl trivial (by simp)) .nil)))))
def W0 (N : Nat) (f : Qf) : Nat → Int → (List Q0) → Option (Qf)
 | 0, _, _ => none
 | n + 1, i14, l15 =>
  cond (Q5 .lss i14 ((Q0.rows f.Values).length : Int))
  ((idx f.Values i14).bind fun y17 =>
  (Yc N y17).bind fun v19 =>
  cond (Nat.ble ((l15.length + 1 + 4096) * 56) 17592186044416) (W0 N f n (IntKind.wrap .i64 (i14 + 1)) (l15 ++ [v19])) none)
  (some (⟨f.Type', f.Channel, f.Ext, l15⟩ : Qf))
def Je (N : Nat) (f : Qf) : Option (Qf) :=
 W0 N f N 0 []
theorem Q6o {N} {f} {r} (h : Je N f = some r) : Z0 Tryz.prog G1 50 [.agg (Qf.cells f)] (.agg (Qf.cells r)) := by
 refine Q3 k50 ?_
 unfold Je at h
 refine lpC (τ := Int × (List Q0)) (fun ⟨i14, _⟩ => (.any :: .ptr 0 0 :: .ptr 1 0 :: .ptr 2 0 :: iI i14 :: a16 (a8 (a2 ([]))) : List AV)) (fun ⟨_, l15⟩ => (.cells (iI f.Type' :: iI f.Channel :: iS f.Ext :: .p (.slice 4 (Q0.rows f.Values)) :: []) :: .cells (iI 0 :: iI 0 :: iS [] :: .p .nilSlice :: []) :: .cells (iI f.Type' :: iI f.Channel :: iS f.Ext :: .slice 4 3 0 l15.length :: []) :: .cells (Xj Q0.cells l15) :: [] : List AObj)) (fun n0 ⟨i14, l15⟩ => W0 N f n0 i14 l15) (0, []) h (fun i => i) ⟨(rA <| rE rfl <| rE rfl <| rE rfl <| rE rfl <| rX <| rX <| rX <| rW <| rN), (hE rfl <| hE rfl <| hC rfl (rE rfl <| rE rfl <| rE rfl <| rS <| rN) <| hV lb <| hN), rfl, rfl, (roE rfl <| roE rfl <| roE rfl <| roE (Q9 _ _ _) <| roN)⟩ fun n0 ⟨i14, l15⟩ h => ?_
 simp only [W0] at h
 apply iU h <;> intro h
 ·refine Qe ?_
  refine Q0.xR h fun y17 h => ?_
  refine cD h Q1v (.cons q4 .nil) fun v19 h => ?_
  obtain ⟨hk21, h⟩ := Q38 h
  refine Q2a (X6 (c := Q0.cells) (e := 4) (fun _ => rfl) (by simp) hk21) ?_
  refine Vt (c := Q0.cells) [v19] rfl ?_
  show Exists _
  exact ⟨(n0, (IntKind.wrap .i64 (i14 + 1)), (l15 ++ [v19])), h, Nat.lt_succ_self _, (rho [0, 1, 2, 5]), ⟨(rA <| rE rfl <| rE rfl <| rE rfl <| rE rfl <| rX <| rX <| rX <| rW <| rN), (hE rfl <| hE rfl <| hC rfl (rE rfl <| rE rfl <| rE rfl <| rL (by simp) rfl <| rN) <| hO rfl <| hN), rfl, rfl, (roE rfl <| roE rfl <| roE rfl <| roE (Q9 _ _ _) <| roN)⟩⟩
 ·obtain rfl := Q8 h; exact (Frz.agg' (.cons (.p _) (.cons (.p _) (.cons (.p _) (.cons (Q0.frz_own (l := l15) rfl trivial (by simp)) .nil)))))
def Y0 (N : Nat) (a : Qf) (b : Qf) : Nat → Int → Option (Bool)
 | 0, _ => none
 | n + 1, i22 =>
  cond (Q5 .lss i22 ((Q0.rows a.Values).length : Int))
  ((idx a.Values i22).bind fun y24 =>
  (idx b.Values i22).bind fun y26 =>
  (Wa N y24 y26).bind fun v28 =>
  cond (!v28)
  (some false)
  (Y0 N a b n (IntKind.wrap .i64 (i22 + 1))))
  (some true)
def J8 (N : Nat) (a : Qf) (b : Qf) : Option (Bool) :=
 cond (Q5 .neq a.Type' b.Type')
 (some false)
 (cond (Q5 .neq a.Channel b.Channel)
 (some false)
 (cond (Q3q .neq a.Ext b.Ext)
 (some false)
 (cond (Q5 .neq ((Q0.rows a.Values).length : Int) ((Q0.rows b.Values).length : Int))
 (some false)
 (Y0 N a b N 0))))
theorem Q5x {N} {a} {b} {r} (h : J8 N a b = some r) : Z0 Tryz.prog G1 51 [.agg (Qf.cells a), .agg (Qf.cells b)] (.bool r) := by
 refine Q3 k51 ?_
 unfold J8 at h
 apply iU h <;> intro h
 ·cases h; exact (.p _)
 ·apply iU h <;> intro h
  ·cases h; exact (.p _)
  ·apply iU h <;> intro h
   ·cases h; exact (.p _)
   ·apply iU h <;> intro h
    ·cases h; exact (.p _)
    ·refine lpC (τ := Int) (fun i22 => (.any :: .any :: .ptr 0 0 :: .ptr 1 0 :: .any :: iI i22 :: a16 (a16 (a8 (a4 (a2 (.any :: []))))) : List AV)) (fun _ => (.cells (iI a.Type' :: iI a.Channel :: iS a.Ext :: .p (.slice 4 (Q0.rows a.Values)) :: []) :: .cells (iI b.Type' :: iI b.Channel :: iS b.Ext :: .p (.slice 4 (Q0.rows b.Values)) :: []) :: [] : List AObj)) (fun n0 i22 => Y0 N a b n0 i22) (0) h (fun i => i) ⟨(rW <| rE rfl <| rE rfl <| rA <| rE rfl <| rX <| rX <| rX <| rX <| rX <| rV <| rW <| rA <| rN), (hE rfl <| hE rfl <| hN), rfl, rfl, (roE rfl <| roE rfl <| roN)⟩ fun n0 i22 h => ?_
     simp only [Y0] at h
     apply iU h <;> intro h
     ·refine Qe ?_
      refine Q0.xR h fun y24 h => ?_
      refine Q0.xR h fun y26 h => ?_
      refine cD h Q5w (.cons q4 (.cons q4 .nil)) fun v28 h => ?_
      apply iU h <;> intro h
      ·cases h; exact (.p _)
      ·show Exists _
       exact ⟨(n0, (IntKind.wrap .i64 (i22 + 1))), h, Nat.lt_succ_self _, (fun i => i), ⟨(rW <| rE rfl <| rE rfl <| rA <| rE rfl <| rX <| rX <| rX <| rX <| rX <| rV <| rW <| rA <| rN), (hE rfl <| hE rfl <| hN), rfl, rfl, (roE rfl <| roE rfl <| roN)⟩⟩
     ·cases h; exact (.p _)
def Ys (N : Nat) (f : Qf) (g : Qf) (s_2 : List UInt8) (l : Qw) : Option (Bool) :=
 (Uf N).bind fun v1 =>
 cond (!v1)
 (some false)
 ((Xe N f).bind fun v4 =>
 cond (!v4)
 (some true)
 ((Xe N g).bind fun v7 =>
 cond (!v7)
 (some true)
 (cond (Q5 .gtr (s_2.length : Int) 200)
 (some true)
 ((Vv N f).bind fun v11 =>
 (Jw N v11 l).bind fun v13 =>
 (Ub N f l).bind fun v15 =>
 (Gm N s_2 l).bind fun v17 =>
 (Vn N s_2 l).bind fun v19 =>
 (Q0i N s_2 l).bind fun v21 =>
 (J6 N s_2 l).bind fun v23 =>
 cond (Q3q .eql v13.1 v15.1)
 (cond (Q5 .eql v13.2 v15.2)
 (cond (Q5 .eql v17.1 v19.1)
 (cond (Q5 .eql v17.2 v19.2)
 ((W1 N v21.1 v23.1).bind fun v29 =>
 cond v29
 (cond (Q5 .eql v21.2.1 v23.2.1)
 (cond (Q5 .eql v21.2.2 v23.2.2)
 ((G2 N f l).bind fun v34 =>
 (V7 N f l).bind fun v36 =>
 cond (Q5 .eql v34 v36)
 ((Q0l N f).bind fun v39 =>
 (Je N f).bind fun v41 =>
 (W1 N v39 v41).bind fun v43 =>
 cond v43
 ((Q0j N f g).bind fun v46 =>
 (J8 N f g).bind fun v48 =>
 some (v46 == v48))
 (some false))
 (some false))
 (some false))
 (some false))
 (some false))
 (some false))
 (some false))
 (some false))
 (some false)))))
theorem Q2b {N} {f} {g} {s_2} {l} {r} (h : Ys N f g s_2 l = some r) : Z0 Tryz.prog G1 9 [.agg (Qf.cells f), .agg (Qf.cells g), .str s_2, .agg (Qw.cells l)] (.bool r) := by
 refine Q3 k9 ?_
 unfold Ys at h
 refine cP h Q5c p0 fun v1 h => ?_
 apply iU h <;> intro h
 ·cases h; exact (.p _)
 ·refine cP h Q0c (.cons q4 .nil) fun v4 h => ?_
  apply iU h <;> intro h
  ·cases h; exact (.p _)
  ·refine cP h Q0c (.cons q4 .nil) fun v7 h => ?_
   apply iU h <;> intro h
   ·cases h; exact (.p _)
   ·apply iU h <;> intro h
    ·cases h; exact (.p _)
    ·refine Qe ?_
     refine cD h Q4l (.cons q4 .nil) fun v11 h => ?_
     refine cD h Q3e (.cons (.p _) (.cons q2 .nil)) fun v13 h => ?_
     refine cP h Q5f (.cons q4 (.cons q2 .nil)) fun v15 h => ?_
     refine cP h Q4c (.cons (.p _) (.cons q2 .nil)) fun v17 h => ?_
     refine cP h Q1w (.cons (.p _) (.cons q2 .nil)) fun v19 h => ?_
     refine cP h Q9z (.cons (.p _) (.cons q2 .nil)) fun v21 h => ?_
     refine cP h Q6m (.cons (.p _) (.cons q2 .nil)) fun v23 h => ?_
     refine Qe ?_
     apply iU h <;> intro h
     ·apply iU h <;> intro h
      ·apply iU h <;> intro h
       ·apply iU h <;> intro h
        ·refine cD h Q0t (.cons q4 (.cons q4 .nil)) fun v29 h => ?_
         apply iU h <;> intro h
         ·apply iU h <;> intro h
          ·apply iU h <;> intro h
           ·refine cD h Q3x (.cons q4 (.cons q2 .nil)) fun v34 h => ?_
            refine cD h Q1g (.cons q4 (.cons q2 .nil)) fun v36 h => ?_
            apply iU h <;> intro h
            ·refine cD h Q9x (.cons q4 .nil) fun v39 h => ?_
             refine cD h Q6o (.cons q4 .nil) fun v41 h => ?_
             refine cD h Q0t p2 fun v43 h => ?_
             apply iU h <;> intro h
             ·refine cD h Q9s (.cons q4 (.cons q4 .nil)) fun v46 h => ?_
              refine cD h Q5x (.cons q4 (.cons q4 .nil)) fun v48 h => ?_
              cases h; exact (.p _)
             ·cases h; exact (.p _)
            ·cases h; exact (.p _)
           ·cases h; exact (.p _)
          ·cases h; exact (.p _)
         ·cases h; exact (.p _)
        ·cases h; exact (.p _)
       ·cases h; exact (.p _)
      ·cases h; exact (.p _)
     ·cases h; exact (.p _)
end
end
end Go.Av
