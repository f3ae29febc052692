/- Part of the proof of EventOwn: for every input the law returns true; no condition. -/
import Derived.Test.YtnbdhlnkhdhohaaGreatDoorLiftF2
namespace Go.Av
noncomputable section
open Go.Proofs
set_option maxRecDepth 100000
set_option maxHeartbeats 4000000
attribute [local irreducible] Vp Xe Q79 Qc9 Qpg Qpp Qgl
section
def Q2o (N : Nat) (m : Q14) : Option (Int) :=
 (Q0b N m.Type').bind fun v1 =>
 cond (!v1)
 (some 8)
 ((Q6a N m.Type' m.Flags).bind fun v4 =>
 cond (!v4)
 (some 7)
 ((Q43 N m.Type').bind fun v7 =>
 cond v7
 (cond (Q4o .eql m.Name [])
 (cond (!(((m.Flags.Dup : Bool) == false) && (((m.Flags.QoS : Int) == 0) && (((m.Flags.Retain : Bool) == false) && (((m.Flags.Will : Bool) == false) && (((m.Flags.Clean : Bool) == false) && (((m.Flags.Type' : Int) == 0) && true)))))))
 (some 7)
 ((Yc N (⟨2, m, [], false⟩ : Q4)).bind fun v12 =>
 cond v12.2.bad
 (some 2)
 (cond (!(((v12.2.m.Type' : Int) == m.Type') && (((v12.2.m.Flags.Dup : Bool) == m.Flags.Dup) && (((v12.2.m.Flags.QoS : Int) == m.Flags.QoS) && (((v12.2.m.Flags.Retain : Bool) == m.Flags.Retain) && (((v12.2.m.Flags.Will : Bool) == m.Flags.Will) && (((v12.2.m.Flags.Clean : Bool) == m.Flags.Clean) && (((v12.2.m.Flags.Type' : Int) == m.Flags.Type') && (((v12.2.m.Gateway : Int) == 0) && (((v12.2.m.Radius : Int) == 0) && (((v12.2.m.Time : Int) == 0) && (((v12.2.m.Timed : Bool) == false) && (((v12.2.m.TopicID : Int) == 0) && (((v12.2.m.MsgID : Int) == 0) && (((v12.2.m.Code : Int) == 0) && (((v12.2.m.Name : List UInt8) == []) && (((v12.2.m.Data : List UInt8) == []) && true)))))))))))))))))
 (some 2)
 ((G7 N m).bind fun v16 =>
 cond (!v16)
 (some 2)
 ((Us N m).bind fun v19 =>
 cond (Q3 .neq v19 0)
 (some v19)
 ((Q07 N m).bind fun v22 =>
 cond (Q3 .neq v22 0)
 (some v22)
 ((Jv N m).bind fun v25 =>
 (Vi N m.Type' (v25.length : Int)).bind fun v27 =>
 some v27.2)))))))
 ((Yc N (⟨2, m, [], false⟩ : Q4)).bind fun v29 =>
 cond v29.2.bad
 (some 2)
 (cond (!(((v29.2.m.Type' : Int) == m.Type') && (((v29.2.m.Flags.Dup : Bool) == m.Flags.Dup) && (((v29.2.m.Flags.QoS : Int) == m.Flags.QoS) && (((v29.2.m.Flags.Retain : Bool) == m.Flags.Retain) && (((v29.2.m.Flags.Will : Bool) == m.Flags.Will) && (((v29.2.m.Flags.Clean : Bool) == m.Flags.Clean) && (((v29.2.m.Flags.Type' : Int) == m.Flags.Type') && (((v29.2.m.Gateway : Int) == 0) && (((v29.2.m.Radius : Int) == 0) && (((v29.2.m.Time : Int) == 0) && (((v29.2.m.Timed : Bool) == false) && (((v29.2.m.TopicID : Int) == 0) && (((v29.2.m.MsgID : Int) == 0) && (((v29.2.m.Code : Int) == 0) && (((v29.2.m.Name : List UInt8) == []) && (((v29.2.m.Data : List UInt8) == []) && true)))))))))))))))))
 (some 2)
 ((G7 N m).bind fun v33 =>
 cond (!v33)
 (some 2)
 ((Us N m).bind fun v36 =>
 cond (Q3 .neq v36 0)
 (some v36)
 ((Q07 N m).bind fun v39 =>
 cond (Q3 .neq v39 0)
 (some v39)
 ((Jv N m).bind fun v42 =>
 (Vi N m.Type' (v42.length : Int)).bind fun v44 =>
 some v44.2)))))))
 ((Yc N (⟨2, m, [], false⟩ : Q4)).bind fun v46 =>
 cond v46.2.bad
 (some 2)
 (cond (!(((v46.2.m.Type' : Int) == m.Type') && (((v46.2.m.Flags.Dup : Bool) == m.Flags.Dup) && (((v46.2.m.Flags.QoS : Int) == m.Flags.QoS) && (((v46.2.m.Flags.Retain : Bool) == m.Flags.Retain) && (((v46.2.m.Flags.Will : Bool) == m.Flags.Will) && (((v46.2.m.Flags.Clean : Bool) == m.Flags.Clean) && (((v46.2.m.Flags.Type' : Int) == m.Flags.Type') && (((v46.2.m.Gateway : Int) == 0) && (((v46.2.m.Radius : Int) == 0) && (((v46.2.m.Time : Int) == 0) && (((v46.2.m.Timed : Bool) == false) && (((v46.2.m.TopicID : Int) == 0) && (((v46.2.m.MsgID : Int) == 0) && (((v46.2.m.Code : Int) == 0) && (((v46.2.m.Name : List UInt8) == []) && (((v46.2.m.Data : List UInt8) == []) && true)))))))))))))))))
 (some 2)
 ((G7 N m).bind fun v50 =>
 cond (!v50)
 (some 2)
 ((Us N m).bind fun v53 =>
 cond (Q3 .neq v53 0)
 (some v53)
 ((Q07 N m).bind fun v56 =>
 cond (Q3 .neq v56 0)
 (some v56)
 ((Jv N m).bind fun v59 =>
 (Vi N m.Type' (v59.length : Int)).bind fun v61 =>
 some v61.2))))))))
theorem Qe9 {N} {m} {r} (h : Q2o N m = some r) : pU 133 [.agg (Q14.cells m)] (.int .i64 r) := by
 refine Q2 Zfn ?_;unfold Q2o at h;rw [cX, cY] at h;refine cP h Qbo p1 fun v1 h => ?_;refine iL h fun h => ?_;refine cP h Qgf (.cons (.p _) (.cons (Frz.agg' (.cons (.p _) p5)) .nil)) fun v4 h => ?_;refine iL h fun h => ?_;refine cP h Qfb p1 fun v7 h => ?_;apply iU h <;> intro h
 ·apply iU h <;> intro h
  ·refine iL h fun h => ?_;refine cG h Vu fun v12 h => ?_;refine ⟨rho [1, 3], (.cells (Zr m ([])) :: .cells (.p .nilPtr :: iI v12.2.do' :: Zr v12.2.m (.slice 1 2 0 v12.2.out.length :: .p (.bool v12.2.bad) :: [])) :: .cells (Zz (cI .u8) v12.2.out) :: []), .tuple [], ⟨(rE rfl <| rN), (hC rfl (rE rfl <| rE rfl <| rE rfl <| rE rfl <| rE rfl <| rE rfl <| rE rfl <| rE rfl <| rE rfl <| rE rfl <| rE rfl <| rE rfl <| rE rfl <| rE rfl <| rE rfl <| rE rfl <| rE rfl <| rE rfl <| rS <| rE rfl <| rN) <| hV lb <| hN), rfl, rfl, (roE rfl <| roE (Wx _ _ _) <| roN), rfl, (fK rfl rfl <| fR 0 rfl rfl rfl rfl <| fO 2 rfl rfl rfl <| fN), rfl⟩, ?_⟩;refine iL h fun h => ?_;refine iL h fun h => ?_;refine cP h Q4d (.cons (Frz.agg' (f8_ (f2_ (.cons (.p _) p5)))) .nil) fun v16 h => ?_;refine iL h fun h => ?_;refine cP h Q2q (.cons (Frz.agg' (f8_ (f2_ (.cons (.p _) p5)))) .nil) fun v19 h => ?_;refine iL h fun h => ?_;refine cP h Q5g (.cons (Frz.agg' (f8_ (f2_ (.cons (.p _) p5)))) .nil) fun v22 h => ?_;refine iL h fun h => ?_;refine Qc ?_;refine cD h Q2x (.cons (Frz.agg' (f8_ (f2_ (.cons (.p _) p5)))) .nil) fun v25 h => ?_;refine cD h Q0z p2 fun v27 h => ?_;cases h; exact (.p _)
  refine cG h Vu fun v29 h => ?_;refine ⟨rho [1, 3], (.cells (Zr m ([])) :: .cells (.p .nilPtr :: iI v29.2.do' :: Zr v29.2.m (.slice 1 2 0 v29.2.out.length :: .p (.bool v29.2.bad) :: [])) :: .cells (Zz (cI .u8) v29.2.out) :: []), .tuple [], ⟨(rE rfl <| rN), (hC rfl (rE rfl <| rE rfl <| rE rfl <| rE rfl <| rE rfl <| rE rfl <| rE rfl <| rE rfl <| rE rfl <| rE rfl <| rE rfl <| rE rfl <| rE rfl <| rE rfl <| rE rfl <| rE rfl <| rE rfl <| rE rfl <| rS <| rE rfl <| rN) <| hV lb <| hN), rfl, rfl, (roE rfl <| roE (Wx _ _ _) <| roN), rfl, (fK rfl rfl <| fR 0 rfl rfl rfl rfl <| fO 2 rfl rfl rfl <| fN), rfl⟩, ?_⟩;refine iL h fun h => ?_;refine iL h fun h => ?_;refine cP h Q4d (.cons (Frz.agg' (f8_ (f2_ (.cons (.p _) p5)))) .nil) fun v33 h => ?_;refine iL h fun h => ?_;refine cP h Q2q (.cons (Frz.agg' (f8_ (f2_ (.cons (.p _) p5)))) .nil) fun v36 h => ?_;refine iL h fun h => ?_;refine cP h Q5g (.cons (Frz.agg' (f8_ (f2_ (.cons (.p _) p5)))) .nil) fun v39 h => ?_;refine iL h fun h => ?_;refine Qc ?_;refine cD h Q2x (.cons (Frz.agg' (f8_ (f2_ (.cons (.p _) p5)))) .nil) fun v42 h => ?_;refine cD h Q0z p2 fun v44 h => ?_;cases h; exact (.p _)
 refine cG h Vu fun v46 h => ?_;refine ⟨rho [1, 3], (.cells (Zr m ([])) :: .cells (.p .nilPtr :: iI v46.2.do' :: Zr v46.2.m (.slice 1 2 0 v46.2.out.length :: .p (.bool v46.2.bad) :: [])) :: .cells (Zz (cI .u8) v46.2.out) :: []), .tuple [], ⟨(rE rfl <| rN), (hC rfl (rE rfl <| rE rfl <| rE rfl <| rE rfl <| rE rfl <| rE rfl <| rE rfl <| rE rfl <| rE rfl <| rE rfl <| rE rfl <| rE rfl <| rE rfl <| rE rfl <| rE rfl <| rE rfl <| rE rfl <| rE rfl <| rS <| rE rfl <| rN) <| hV lb <| hN), rfl, rfl, (roE rfl <| roE (Wx _ _ _) <| roN), rfl, (fK rfl rfl <| fR 0 rfl rfl rfl rfl <| fO 2 rfl rfl rfl <| fN), rfl⟩, ?_⟩;refine iL h fun h => ?_;refine iL h fun h => ?_;refine cP h Q4d (.cons (Frz.agg' (f8_ (f2_ (.cons (.p _) p5)))) .nil) fun v50 h => ?_;refine iL h fun h => ?_;refine cP h Q2q (.cons (Frz.agg' (f8_ (f2_ (.cons (.p _) p5)))) .nil) fun v53 h => ?_;refine iL h fun h => ?_;refine cP h Q5g (.cons (Frz.agg' (f8_ (f2_ (.cons (.p _) p5)))) .nil) fun v56 h => ?_;refine iL h fun h => ?_;refine Qc ?_;refine cD h Q2x (.cons (Frz.agg' (f8_ (f2_ (.cons (.p _) p5)))) .nil) fun v59 h => ?_;refine cD h Q0z p2 fun v61 h => ?_;cases h; exact (.p _)
def Q0u (N : Nat) (m : Q14) : Option ((List UInt8) × Int) :=
 (Q2o N m).bind fun v1 =>
 cond (Q3 .neq v1 0)
 (some ([], v1))
 ((Jv N m).bind fun v4 =>
 (Vi N m.Type' (v4.length : Int)).bind fun v6 =>
 cond (Q3 .neq v6.2 0)
 (some ([], v6.2))
 (cond (Nat.ble (v6.1.length + v4.length) 4611686018427387904) (some ((v6.1 ++ v4), 0)) none))
theorem Q7u {N} {m} {r} (h : Q0u N m = some r) : pU 97 [.agg (Q14.cells m)] (.tuple [.str r.1, .int .i64 r.2]) := by
 refine Q2 k97 ?_;unfold Q0u at h;rw [cX] at h;refine cP h Qe9 (.cons (Frz.agg' (f8_ (f2_ (.cons (.p _) p5)))) .nil) fun v1 h => ?_;refine iL2 h fun h => ?_;refine cP h Q2x (.cons (Frz.agg' (f8_ (f2_ (.cons (.p _) p5)))) .nil) fun v4 h => ?_;refine cP h Q0z p2 fun v6 h => ?_;refine iL2 h fun h => ?_;refine kU h fun h => ?_;obtain rfl := Qb h; exact u2
def Jj (N : Nat) (h_0 : Q0t) : Option (List UInt8) :=
 (Qk N (IntKind.wrap .u64 (IntKind.wrap .i64 (3 + (h_0.Node.length : Int)))) 1).bind fun v1 =>
 (Qk N 254 1).bind fun v3 =>
 cond (Nat.ble (v1.length + v3.length) 4611686018427387904) ((Qk N (IntKind.wrap .u64 h_0.Radius) 1).bind fun v6 =>
 cond (Nat.ble ((v1 ++ v3).length + v6.length) 4611686018427387904) (cond (Nat.ble (((v1 ++ v3) ++ v6).length + h_0.Node.length) 4611686018427387904) (some (((v1 ++ v3) ++ v6) ++ h_0.Node)) none) none) none
theorem Q4l {N} {h_0} {r} (h : Jj N h_0 = some r) : pU 98 [.agg (Q0t.cells h_0)] (.str r) := by
 refine Q2 k98 ?_;unfold Jj at h;refine Qc ?_;refine cD h Qf p2 fun v1 h => ?_;refine cD h Qf p2 fun v3 h => ?_;refine kU h fun h => ?_;refine cD h Qf p2 fun v6 h => ?_;refine kU h fun h => ?_;refine kU h fun h => ?_;cases h; exact (.p _)
def Q1e (_N : Nat) (l : Y5) : Option (Bool) :=
 cond (Q3 .geq l.MaxPacket 16)
 (cond (Q3 .leq l.MaxPacket 1048576)
 (cond (Q3 .geq l.MaxDepth 0)
 (some (Q3 .leq l.MaxDepth 32))
 (some false))
 (some false))
 (some false)
theorem Qcn {N} {l} {r} (h : Q1e N l = some r) : pU 93 [.agg (Y5.cells l)] (.bool r) := by
 refine Q2 k93 ?_;unfold Q1e at h;rw [cX] at h;refine iR h fun h => ?_;refine iR h fun h => ?_;exact iB h
def Q3p (_N : Nat) (h_0 : Q0t) : Option (Bool) :=
 cond (Q3 .geq h_0.Radius 0)
 (cond (Q3 .leq h_0.Radius 3)
 (cond (Q3 .geq (h_0.Node.length : Int) 1)
 (some (Q3 .leq (h_0.Node.length : Int) 32))
 (some false))
 (some false))
 (some false)
theorem Q9q {N} {h_0} {r} (h : Q3p N h_0 = some r) : pU 96 [.agg (Q0t.cells h_0)] (.bool r) := by
 refine Q2 k96 ?_;unfold Q3p at h;rw [cX] at h;refine iR h fun h => ?_;refine iR h fun h => ?_;exact iB h
def Q1u (N : Nat) (h_0 : Q0t) : Option (Bool) :=
 (Q3p N h_0).bind fun v1 =>
 some (!v1)
theorem Qaj {N} {h_0} {r} (h : Q1u N h_0 = some r) : pU 95 [.agg (Q0t.cells h_0)] (.bool r) := by
 refine Q2 k95 ?_;unfold Q1u at h;refine cP h Q9q (.cons q2 .nil) fun v1 h => ?_;cases h; exact (.p _)
def W8 (N : Nat) (d : Wd) (l : Y5) (v26 : (List UInt8) × Int) : Nat → (List UInt8) → Int → Option ((List UInt8) × Int)
 | 0, _, _ => none
 | n + 1, out43, s44 =>
  cond (Q3 .lss s44 ((Q8 Q0t.cells d.Hops).length : Int))
  ((idx d.Hops s44).bind fun y46 =>
  (Jj N y46).bind fun v48 =>
  cond (Nat.ble (out43.length + v48.length) 4611686018427387904) (W8 N d l v26 n (out43 ++ v48) (IntKind.wrap .i64 (s44 + 1))) none)
  (cond (Q3 .gtr (IntKind.wrap .i64 ((out43.length : Int) + (v26.1.length : Int))) l.MaxPacket)
  (some ([], 4))
  (cond (Nat.ble (out43.length + v26.1.length) 4611686018427387904) (some ((out43 ++ v26.1), 0)) none))
def Wa (N : Nat) (d : Wd) (l : Y5) (v53 : (List UInt8) × Int) : Nat → (List UInt8) → Int → Option ((List UInt8) × Int)
 | 0, _, _ => none
 | n + 1, out70, s71 =>
  cond (Q3 .lss s71 ((Q8 Q0t.cells d.Hops).length : Int))
  ((idx d.Hops s71).bind fun y73 =>
  (Jj N y73).bind fun v75 =>
  cond (Nat.ble (out70.length + v75.length) 4611686018427387904) (Wa N d l v53 n (out70 ++ v75) (IntKind.wrap .i64 (s71 + 1))) none)
  (cond (Q3 .gtr (IntKind.wrap .i64 ((out70.length : Int) + (v53.1.length : Int))) l.MaxPacket)
  (some ([], 4))
  (cond (Nat.ble (out70.length + v53.1.length) 4611686018427387904) (some ((out70 ++ v53.1), 0)) none))
def W9 (N : Nat) (d : Wd) (l : Y5) : Nat → Int → Option ((List UInt8) × Int)
 | 0, _ => none
 | n + 1, s18 =>
  cond (Q3 .lss s18 ((Q8 Q0t.cells d.Hops).length : Int))
  ((idx d.Hops s18).bind fun y20 =>
  (Q1u N y20).bind fun v22 =>
  cond v22
  (cond (Q3 .geq s18 0)
  (some ([], 2))
  ((Q0u N d.Msg).bind fun v26 =>
  cond (Q3 .neq v26.2 0)
  (some ([], v26.2))
  (W8 N d l v26 N [] 0)))
  (W9 N d l n (IntKind.wrap .i64 (s18 + 1))))
  ((Q0u N d.Msg).bind fun v53 =>
  cond (Q3 .neq v53.2 0)
  (some ([], v53.2))
  (Wa N d l v53 N [] 0))
def Q3w (N : Nat) (d : Wd) (l : Y5) : Option ((List UInt8) × Int) :=
 (Q1e N l).bind fun v1 =>
 cond (!v1)
 (some ([], 2))
 (cond (Q3 .gtr ((Q8 Q0t.cells d.Hops).length : Int) 4)
 (some ([], 12))
 (W9 N d l N 0))
theorem Qd7 {N} {d} {l} {r} (h : Q3w N d l = some r) : pU 75 [.agg (Wd.cells d), .agg (Y5.cells l)] (.tuple [.str r.1, .int .i64 r.2]) := by
 refine Q2 k75 ?_;unfold Q3w at h;rw [cX] at h;refine cP h Qcn (.cons q2 .nil) fun v1 h => ?_;refine iL2 h fun h => ?_;refine iL2 h fun h => ?_;refine Qg k94 ?_;refine Qg Zgz ?_;refine lpH (τ := Int) (fun s18 => (.p (.slice 2 (Q8 Q0t.cells d.Hops)) :: .p (.func (.func 95) [] []) :: a4 (.any :: iI ((Q8 Q0t.cells d.Hops).length : Int) :: iI s18 :: a8 (a2 ([]))) : List AV)) (fun n0 s18 => W9 N d l n0 s18) (0) h fun n0 s18 h => ?_
 first | rw [W9] at h | simp only [W9] at h
 rw [cX] at h;apply iU h <;> intro h
 ·refine xR h fun y20 h => ?_;refine cP h Qaj (.cons q2 .nil) fun v22 h => ?_;apply iU h <;> intro h
  ·refine iL2 h fun h => ?_;refine cP h Q7u (.cons (Frz.agg' (f8_ (f2_ (.cons (.p _) p5)))) .nil) fun v26 h => ?_;refine iL2 h fun h => ?_;refine lpH (τ := (List UInt8) × Int) (fun ⟨out43, s44⟩ => (a2 (.any :: .ptr 1 0 :: .any :: .any :: iS v26.1 :: .any :: iS out43 :: a16 (a4 (a2 (.p (.slice 2 (Q8 Q0t.cells d.Hops)) :: iI ((Q8 Q0t.cells d.Hops).length : Int) :: iI s44 :: a16 (a2 (.any :: [])))))) : List AV)) (fun n1 ⟨out43, s44⟩ => W8 N d l v26 n1 out43 s44) ([], 0) h fun n1 ⟨out43, s44⟩ h => ?_
   first | rw [W8] at h | simp only [W8] at h
   rw [cX] at h;apply iU h <;> intro h
   ·refine xR h fun y46 h => ?_;refine cP h Q4l (.cons q2 .nil) fun v48 h => ?_;refine kU h fun h => ?_;show Exists _;exact ⟨(n1, (out43 ++ v48), (IntKind.wrap .i64 (s44 + 1))), h, Le _, (fun i => i), Zc⟩
   refine iL2 h fun h => ?_;refine kU h fun h => ?_;obtain rfl := Qb h; exact u2
  show Exists _;exact ⟨(n0, (IntKind.wrap .i64 (s18 + 1))), h, Le _, (fun i => i), Zc⟩
 refine dF ?_;refine cP h Q7u (.cons (Frz.agg' (f8_ (f2_ (.cons (.p _) p5)))) .nil) fun v53 h => ?_;refine iL2 h fun h => ?_;refine lpH (τ := (List UInt8) × Int) (fun ⟨out70, s71⟩ => (a2 (.any :: .ptr 1 0 :: .any :: .any :: iS v53.1 :: .any :: iS out70 :: a16 (a4 (a2 (.p (.slice 2 (Q8 Q0t.cells d.Hops)) :: iI ((Q8 Q0t.cells d.Hops).length : Int) :: iI s71 :: a16 (a2 (.any :: [])))))) : List AV)) (fun n2 ⟨out70, s71⟩ => Wa N d l v53 n2 out70 s71) ([], 0) h fun n2 ⟨out70, s71⟩ h => ?_
 first | rw [Wa] at h | simp only [Wa] at h
 rw [cX] at h;apply iU h <;> intro h
 ·refine xR h fun y73 h => ?_;refine cP h Q4l (.cons q2 .nil) fun v75 h => ?_;refine kU h fun h => ?_;show Exists _;exact ⟨(n2, (out70 ++ v75), (IntKind.wrap .i64 (s71 + 1))), h, Le _, (fun i => i), Zc⟩
 refine iL2 h fun h => ?_;refine kU h fun h => ?_;obtain rfl := Qb h; exact u2
def Vk (N : Nat) (d : Wd) (l : Y5) : Option (Int) :=
 (Q3w N d l).bind fun v1 =>
 some v1.2
theorem Q3j {N} {d} {l} {r} (h : Vk N d l = some r) : pU 57 [.agg (Wd.cells d), .agg (Y5.cells l)] (.int .i64 r) := by
 refine Q2 k57 ?_;unfold Vk at h;refine cP h Qd7 (.cons (Frz.agg' (f8_ (f2_ (f1_ (.cons (.p _) p5))))) (.cons q2 .nil)) fun v1 h => ?_;cases h; exact (.p _)
def Wk (_N : Nat) (a : Wg) (version : Int) : Option (Bool) :=
 some false
theorem Q13 {N} {a} {version} {r} (h : Wk N a version = some r) : pU 252 [.agg (Wg.cells a), .int .i64 version] (.bool r) := by
 refine Q2 Zdg ?_;unfold Wk at h;cases h; exact (.p _)
def U7 (_N : Nat) (a : Wg) (version : Int) : Option (Bool) :=
 some (Q3 .eql version 5)
theorem Q2f {N} {a} {version} {r} (h : U7 N a version = some r) : pU 253 [.agg (Wg.cells a), .int .i64 version] (.bool r) := by
 refine Q2 Zd5 ?_;unfold U7 at h;rw [cX] at h;cases h; exact (.p _)
def Gk (N : Nat) (version : Int) (kind : Int) : Option (Bool × Bool) :=
 cond ((kind : Int) == 12)
 ((Wk N (⟨⟩ : Wg) version).bind fun v2 =>
 some (v2, true))
 (cond ((kind : Int) == 13)
 ((Wk N (⟨⟩ : Wg) version).bind fun v5 =>
 some (v5, true))
 (cond ((kind : Int) == 14)
 ((U7 N (⟨⟩ : Wg) version).bind fun v8 =>
 some (v8, true))
 (cond ((kind : Int) == 15)
 ((U7 N (⟨⟩ : Wg) version).bind fun v11 =>
 some (v11, true))
 (some (false, false)))))
theorem Q6s {N} {version} {kind} {r} (h : Gk N version kind = some r) : pU 215 [.int .i64 version, .int .i64 kind] (.tuple [.bool r.1, .bool r.2]) := by
 refine Q2 Z6n ?_;unfold Gk at h;apply iU h <;> intro h
 ·refine cP h Q13 (.cons (Frz.agg' .nil) p1) fun v2 h => ?_;obtain rfl := Qb h; exact u2
 apply iU h <;> intro h
 ·refine cP h Q13 (.cons (Frz.agg' .nil) p1) fun v5 h => ?_;obtain rfl := Qb h; exact u2
 apply iU h <;> intro h
 ·refine cP h Q2f (.cons (Frz.agg' .nil) p1) fun v8 h => ?_;obtain rfl := Qb h; exact u2
 refine iR2 h fun h => ?_;refine cP h Q2f (.cons (Frz.agg' .nil) p1) fun v11 h => ?_;obtain rfl := Qb h; exact u2
def Q0r (N : Nat) (version : Int) (kind : Int) : Option (Int) :=
 (Gk N version kind).bind fun v1 =>
 cond (!v1.2)
 (some 2)
 (cond (Q3 .neq version 4)
 (cond (Q3 .neq version 5)
 (some 2)
 (cond (Q3 .eql kind 15)
 (cond (Q3 .eql version 4)
 (some 8)
 (some 0))
 (some 0)))
 (cond (Q3 .eql kind 15)
 (cond (Q3 .eql version 4)
 (some 8)
 (some 0))
 (some 0)))
theorem Qbx {N} {version} {kind} {r} (h : Q0r N version kind = some r) : pU 214 [.int .i64 version, .int .i64 kind] (.int .i64 r) := by
 refine Q2 Z5e ?_;unfold Q0r at h;rw [cX] at h;refine cP h Q6s p2 fun v1 h => ?_;refine iL h fun h => ?_;apply iU h <;> intro h
 ·refine iL h fun h => ?_;refine iR h fun h => ?_;exact iB h
 refine iR h fun h => ?_;exact iB h
def F_prop_rules_tab : List (Int × Qj) := [(1, (⟨1, 65544, 0, 1⟩ : Qj)), (2, (⟨3, 65544, 0, 4294967295⟩ : Qj)), (3, (⟨5, 65544, 0, 0⟩ : Qj)), (8, (⟨5, 65544, 0, 0⟩ : Qj)), (9, (⟨6, 65544, 0, 0⟩ : Qj)), (11, (⟨4, 264, 1, 268435455⟩ : Qj)), (17, (⟨3, 16390, 0, 4294967295⟩ : Qj)), (18, (⟨5, 4, 0, 0⟩ : Qj)), (19, (⟨2, 4, 0, 65535⟩ : Qj)), (21, (⟨5, 32774, 0, 0⟩ : Qj)), (22, (⟨6, 32774, 0, 0⟩ : Qj)), (23, (⟨1, 2, 0, 1⟩ : Qj)), (24, (⟨3, 65536, 0, 4294967295⟩ : Qj)), (25, (⟨1, 2, 0, 1⟩ : Qj)), (26, (⟨5, 4, 0, 0⟩ : Qj)), (28, (⟨5, 16388, 0, 0⟩ : Qj)), (31, (⟨5, 51956, 0, 0⟩ : Qj)), (33, (⟨2, 6, 1, 65535⟩ : Qj)), (34, (⟨2, 6, 0, 65535⟩ : Qj)), (35, (⟨2, 8, 1, 65535⟩ : Qj)), (36, (⟨1, 4, 0, 1⟩ : Qj)), (37, (⟨1, 4, 0, 1⟩ : Qj)), (38, (⟨7, 118782, 0, 0⟩ : Qj)), (39, (⟨3, 6, 1, 4294967295⟩ : Qj)), (40, (⟨1, 4, 0, 1⟩ : Qj)), (41, (⟨1, 4, 0, 1⟩ : Qj)), (42, (⟨1, 4, 0, 1⟩ : Qj))]
theorem Qfu : pU 86 [] (.pmap (Z1v (fun v => .agg (Qj.cells v)) F_prop_rules_tab)) := Qe Q6y (N := 2000) (d := 60) (by kernel_rfl)
def Uu (_N : Nat) (r_0 : Qj) (kind : Int) : Option (Bool) :=
 cond (Q3 .geq kind 1)
 (cond (Q3 .leq kind 16)
 (cond (decide (0 ≤ (IntKind.wrap .u64 kind))) (some (Q3 .eql (Gi .i64 (Q6l .i64 r_0.kinds (IntKind.wrap .u64 kind)) 1) 1)) none)
 (some false))
 (some false)
theorem Qbn {N} {r_0} {kind} {r} (h : Uu N r_0 kind = some r) : pU 116 [.agg (Qj.cells r_0), .int .i64 kind] (.bool r) := by
 refine Q2 Zg4 ?_;unfold Uu at h;rw [cX] at h;refine iR h fun h => ?_;refine iR h fun h => ?_;refine kU h fun h => ?_;cases h; exact (.p _)
def J9 (_N : Nat) (r_0 : Qj) (p : Ql) : Option (Int) :=
 cond (Q4o .neq p.Text [])
 (some 2)
 (cond (Q4o .neq p.Value [])
 (some 2)
 (cond (Q3 .lss p.N' r_0.least)
 (some 9)
 (cond (Q3 .gtr p.N' r_0.most)
 (some 9)
 (some 0))))
theorem Q8m {N} {r_0} {p} {r} (h : J9 N r_0 p = some r) : pU 117 [.agg (Qj.cells r_0), .agg (Ql.cells p)] (.int .i64 r) := by
 refine Q2 Z8o ?_;unfold J9 at h;rw [cX, cY] at h;refine iL h fun h => ?_;refine iL h fun h => ?_;refine iL h fun h => ?_;exact iB h
def Q0o (N : Nat) (r_0 : Qj) (kind : Int) (p : Ql) : Option (Int) :=
 (Uu N r_0 kind).bind fun v1 =>
 cond (!v1)
 (some 9)
 (cond (Q3 .leq r_0.shape 4)
 ((J9 N r_0 p).bind fun v5 =>
 some v5)
 (cond (Q3 .neq p.N' 0)
 (some 2)
 (cond (Q4o .neq p.Value [])
 (cond (Q3 .neq r_0.shape 7)
 (some 2)
 (cond (Q3 .eql r_0.shape 6)
 (cond (Q3 .gtr (p.Text.length : Int) 65535)
 (some 2)
 (some 0))
 ((Qz N p.Text).bind fun v12 =>
 cond (!v12)
 (some 6)
 ((Qz N p.Value).bind fun v15 =>
 cond (!v15)
 (some 6)
 (cond (Q3 .eql p.ID 8)
 ((Z5 N p.Text).bind fun v19 =>
 cond (!v19)
 (some 9)
 (some 0))
 (some 0))))))
 (cond (Q3 .eql r_0.shape 6)
 (cond (Q3 .gtr (p.Text.length : Int) 65535)
 (some 2)
 (some 0))
 ((Qz N p.Text).bind fun v24 =>
 cond (!v24)
 (some 6)
 ((Qz N p.Value).bind fun v27 =>
 cond (!v27)
 (some 6)
 (cond (Q3 .eql p.ID 8)
 ((Z5 N p.Text).bind fun v31 =>
 cond (!v31)
 (some 9)
 (some 0))
 (some 0))))))))
theorem Q8n {N} {r_0} {kind} {p} {r} (h : Q0o N r_0 kind p = some r) : pU 87 [.agg (Qj.cells r_0), .int .i64 kind, .agg (Ql.cells p)] (.int .i64 r) := by
 refine Q2 k87 ?_;unfold Q0o at h;rw [cX, cY] at h;refine cP h Qbn (.cons q4 p1) fun v1 h => ?_;refine iL h fun h => ?_;apply iU h <;> intro h
 ·refine cP h Q8m (.cons q4 (.cons q4 .nil)) fun v5 h => ?_;cases h; exact (.p _)
 refine iL h fun h => ?_;apply iU h <;> intro h
 ·refine iL h fun h => ?_;apply iU h <;> intro h
  ·exact iB h
  refine cP h Zn p1 fun v12 h => ?_;refine iL h fun h => ?_;refine cP h Zn p1 fun v15 h => ?_;refine iL h fun h => ?_;refine iR h fun h => ?_;refine cP h Yi p1 fun v19 h => ?_;exact iB h
 apply iU h <;> intro h
 ·exact iB h
 refine cP h Zn p1 fun v24 h => ?_;refine iL h fun h => ?_;refine cP h Zn p1 fun v27 h => ?_;refine iL h fun h => ?_;refine iR h fun h => ?_;refine cP h Yi p1 fun v31 h => ?_;exact iB h
def Q28 (_N : Nat) (kind : Int) (id : Int) : Option (Bool) :=
 cond (Q3 .eql id 38)
 (some true)
 (cond (Q3 .eql id 11)
 (some (Q3 .eql kind 3))
 (some false))
theorem Q87 {N} {kind} {id} {r} (h : Q28 N kind id = some r) : pU 118 [.int .i64 kind, .int .i64 id] (.bool r) := by
 refine Q2 Zf2 ?_;unfold Q28 at h;rw [cX] at h;refine iL h fun h => ?_;exact iB h
def J0 (N : Nat) (s_0 : List UInt8) : Option (List UInt8) :=
 (Qk N (IntKind.wrap .u64 (s_0.length : Int)) 2).bind fun v1 =>
 cond (Nat.ble (v1.length + s_0.length) 4611686018427387904) (some (v1 ++ s_0)) none
theorem Q5i {N} {s_0} {r} (h : J0 N s_0 = some r) : pU 156 [.str s_0] (.str r) := by
 refine Q2 Z7b ?_;unfold J0 at h;refine cP h Qf p2 fun v1 h => ?_;refine kU h fun h => ?_;cases h; exact (.p _)
def Uy (N : Nat) (s_0 : List UInt8) : Option ((List UInt8) × Int) :=
 cond (Q3 .gtr (s_0.length : Int) 65535)
 (some ([], 2))
 ((J0 N s_0).bind fun v2 =>
 some (v2, 0))
theorem Q20 {N} {s_0} {r} (h : Uy N s_0 = some r) : pU 120 [.str s_0] (.tuple [.str r.1, .int .i64 r.2]) := by
 refine Q2 Z5r ?_;unfold Uy at h;rw [cX] at h;refine iL2 h fun h => ?_;refine cP h Q5i p1 fun v2 h => ?_;obtain rfl := Qb h; exact u2
def Q47 (_N : Nat) (n_0 : Int) : Option (Bool) :=
 cond (Q3 .geq n_0 0)
 (some (Q3 .leq n_0 268435455))
 (some false)
theorem Qgb {N} {n_0} {r} (h : Q47 N n_0 = some r) : pU 121 [.int .i64 n_0] (.bool r) := by
 refine Q2 Zc2 ?_;unfold Q47 at h;rw [cX] at h;exact iB h
def V8 (N : Nat) : Nat → Int → (List Int) → Option ((List UInt8) × Int)
 | 0, _, _ => none
 | n + 1, n9, l10 =>
  cond (Q3 .geq n9 128)
  (cond (Nat.ble ((l10.length + 1 + 4096) * 1) 17592186044416) (V8 N n (IntKind.wrap .i64 ((n9 : Int).tdiv 128)) (l10 ++ [(orI .u8 (IntKind.wrap .u8 ((n9 : Int).tmod 128)) 128)])) none)
  (cond (Nat.ble ((l10.length + 1 + 4096) * 1) 17592186044416) (some (((l10 ++ [(IntKind.wrap .u8 n9)]).map fun n => UInt8.ofNat n.toNat), 0)) none)
def Jf (N : Nat) (n_0 : Int) : Option ((List UInt8) × Int) :=
 (Q47 N n_0).bind fun v1 =>
 cond (!v1)
 (some ([], 2))
 (V8 N N n_0 [])
theorem Q3l {N} {n_0} {r} (h : Jf N n_0 = some r) : pU 91 [.int .i64 n_0] (.tuple [.str r.1, .int .i64 r.2]) := by
 refine Q2 k91 ?_;unfold Jf at h;refine cP h Qgb p1 fun v1 h => ?_;refine iL2 h fun h => ?_;refine lpA (τ := Int × (List Int)) (fun ⟨n9, l10⟩ => (iI n9 :: a2 (.any :: .slice 1 0 0 l10.length :: a16 (a4 ([]))) : List AV)) (fun ⟨_, l10⟩ => (.cells (Zz (cI .u8) l10) :: [] : List AObj)) (fun n0 ⟨n9, l10⟩ => V8 N n0 n9 l10) (n_0, []) h fun n0 ⟨n9, l10⟩ h => ?_
 first | rw [V8] at h | simp only [V8] at h
 rw [cX] at h;apply iU h <;> intro h
 ·obtain ⟨hk12, h⟩ := Q4v h;refine Q0k (Xk (c := (cI .u8)) (e := 1) (fun _ => rfl) sd hk12) ?_;refine Ux (c := (cI .u8)) [(orI .u8 (IntKind.wrap .u8 ((n9 : Int).tmod 128)) 128)] rfl ?_;show Exists _;exact ⟨(n0, (IntKind.wrap .i64 ((n9 : Int).tdiv 128)), (l10 ++ [(orI .u8 (IntKind.wrap .u8 ((n9 : Int).tmod 128)) 128)])), h, Le _, (rho [2]), Zc⟩
 obtain ⟨hk13, h⟩ := Q4v h;refine Q0k (Xk (c := (cI .u8)) (e := 1) (fun _ => rfl) sd hk13) ?_;refine Ux (c := (cI .u8)) [(IntKind.wrap .u8 n9)] rfl ?_;refine Qhx (l := (l10 ++ [(IntKind.wrap .u8 n9)])) (n := (l10.length + 1)) sd ?_;obtain rfl := Qb h; exact u2
def Jx (N : Nat) (shape : Int) (p : Ql) : Option (List UInt8) :=
 cond (Q3 .eql shape 1)
 ((Qk N (IntKind.wrap .u64 p.N') shape).bind fun v2 =>
 some v2)
 (cond (Q3 .eql shape 2)
 ((Qk N (IntKind.wrap .u64 p.N') shape).bind fun v5 =>
 some v5)
 (cond (Q3 .eql shape 3)
 ((Qk N (IntKind.wrap .u64 p.N') 4).bind fun v8 =>
 some v8)
 (cond (Q3 .eql shape 4)
 ((Jf N (IntKind.wrap .i64 p.N')).bind fun v11 =>
 some v11.1)
 ((Uy N p.Text).bind fun v13 =>
 cond (Q3 .neq shape 7)
 (some v13.1)
 ((Uy N p.Value).bind fun v16 =>
 cond (Nat.ble (v13.1.length + v16.1.length) 4611686018427387904) (some (v13.1 ++ v16.1)) none)))))
theorem Q2r {N} {shape} {p} {r} (h : Jx N shape p = some r) : pU 89 [.int .i64 shape, .agg (Ql.cells p)] (.str r) := by
 refine Q2 k89 ?_;unfold Jx at h;rw [cX] at h;refine ifO h (fun hc1 h => ?_) (fun hc1 h => ?_)
 ·refine ifT hc1 ?_;refine cP h Qf p2 fun v2 h => ?_;cases h; exact (.p _)
 apply iU h <;> intro h
 ·refine cP h Qf p2 fun v5 h => ?_;cases h; exact (.p _)
 apply iU h <;> intro h
 ·refine cP h Qf p2 fun v8 h => ?_;cases h; exact (.p _)
 apply iU h <;> intro h
 ·refine cP h Q3l p1 fun v11 h => ?_;cases h; exact (.p _)
 refine cP h Q20 p1 fun v13 h => ?_;refine iL h fun h => ?_;refine cP h Q20 p1 fun v16 h => ?_;refine kU h fun h => ?_;cases h; exact (.p _)
def Ze (N : Nat) (kind : Int) (l : List Ql) : Nat → Int → (List Int) → (List Int) → Option ((List UInt8) × Int)
 | 0, _, _, _ => none
 | n + 1, s107, l108, l109 =>
  cond (Q3 .lss s107 ((Q8 Ql.cells l).length : Int))
  ((idx l s107).bind fun y111 =>
  optC (Q8q F_prop_rules_tab y111.ID) (fun m113 =>
  (Q0o N m113 kind y111).bind fun v115 =>
  cond (Q3 .neq v115 0)
  (some ([], v115))
  (cond (decide (0 ≤ y111.ID) && decide (y111.ID < ((64 : Nat) : Int))) ((idx (l108 : List Int) y111.ID).bind fun y118 =>
  (idx (l108 : List Int) y111.ID).bind fun y121 =>
  (idx (((l108 : List Int).set (Int.toNat y111.ID) (IntKind.wrap .i64 (y118 + 1))) : List Int) y111.ID).bind fun y123 =>
  cond (Q3 .gtr y123 1)
  ((Q28 N kind y111.ID).bind fun v126 =>
  cond (!v126)
  (some ([], 9))
  (cond (Nat.ble ((l109.length + 1 + 4096) * 1) 17592186044416) ((Jx N m113.shape y111).bind fun v130 =>
  cond (Nat.beq v130.length 0)
  (Ze N kind l n (IntKind.wrap .i64 (s107 + 1)) ((l108 : List Int).set (Int.toNat y111.ID) (IntKind.wrap .i64 (y118 + 1))) (l109 ++ [(IntKind.wrap .u8 y111.ID)]))
  (cond (Nat.ble (((l109.length + 1) + v130.length + 4096) * 1) 17592186044416) (Ze N kind l n (IntKind.wrap .i64 (s107 + 1)) ((l108 : List Int).set (Int.toNat y111.ID) (IntKind.wrap .i64 (y118 + 1))) ((l109 ++ [(IntKind.wrap .u8 y111.ID)]) ++ (v130.map fun b => (b.toNat : Int)))) none)) none))
  (cond (Nat.ble ((l109.length + 1 + 4096) * 1) 17592186044416) ((Jx N m113.shape y111).bind fun v135 =>
  cond (Nat.beq v135.length 0)
  (Ze N kind l n (IntKind.wrap .i64 (s107 + 1)) ((l108 : List Int).set (Int.toNat y111.ID) (IntKind.wrap .i64 (y118 + 1))) (l109 ++ [(IntKind.wrap .u8 y111.ID)]))
  (cond (Nat.ble (((l109.length + 1) + v135.length + 4096) * 1) 17592186044416) (Ze N kind l n (IntKind.wrap .i64 (s107 + 1)) ((l108 : List Int).set (Int.toNat y111.ID) (IntKind.wrap .i64 (y118 + 1))) ((l109 ++ [(IntKind.wrap .u8 y111.ID)]) ++ (v135.map fun b => (b.toNat : Int)))) none)) none)) none))
  ((Q0o N (⟨0, 0, 0, 0⟩ : Qj) kind y111).bind fun v139 =>
  cond (Q3 .neq v139 0)
  (some ([], v139))
  (cond (decide (0 ≤ y111.ID) && decide (y111.ID < ((64 : Nat) : Int))) ((idx (l108 : List Int) y111.ID).bind fun y142 =>
  (idx (l108 : List Int) y111.ID).bind fun y145 =>
  (idx (((l108 : List Int).set (Int.toNat y111.ID) (IntKind.wrap .i64 (y142 + 1))) : List Int) y111.ID).bind fun y147 =>
  cond (Q3 .gtr y147 1)
  ((Q28 N kind y111.ID).bind fun v150 =>
  cond (!v150)
  (some ([], 9))
  (cond (Nat.ble ((l109.length + 1 + 4096) * 1) 17592186044416) ((Jx N 0 y111).bind fun v154 =>
  cond (Nat.beq v154.length 0)
  (Ze N kind l n (IntKind.wrap .i64 (s107 + 1)) ((l108 : List Int).set (Int.toNat y111.ID) (IntKind.wrap .i64 (y142 + 1))) (l109 ++ [(IntKind.wrap .u8 y111.ID)]))
  (cond (Nat.ble (((l109.length + 1) + v154.length + 4096) * 1) 17592186044416) (Ze N kind l n (IntKind.wrap .i64 (s107 + 1)) ((l108 : List Int).set (Int.toNat y111.ID) (IntKind.wrap .i64 (y142 + 1))) ((l109 ++ [(IntKind.wrap .u8 y111.ID)]) ++ (v154.map fun b => (b.toNat : Int)))) none)) none))
  (cond (Nat.ble ((l109.length + 1 + 4096) * 1) 17592186044416) ((Jx N 0 y111).bind fun v159 =>
  cond (Nat.beq v159.length 0)
  (Ze N kind l n (IntKind.wrap .i64 (s107 + 1)) ((l108 : List Int).set (Int.toNat y111.ID) (IntKind.wrap .i64 (y142 + 1))) (l109 ++ [(IntKind.wrap .u8 y111.ID)]))
  (cond (Nat.ble (((l109.length + 1) + v159.length + 4096) * 1) 17592186044416) (Ze N kind l n (IntKind.wrap .i64 (s107 + 1)) ((l108 : List Int).set (Int.toNat y111.ID) (IntKind.wrap .i64 (y142 + 1))) ((l109 ++ [(IntKind.wrap .u8 y111.ID)]) ++ (v159.map fun b => (b.toNat : Int)))) none)) none)) none)))
  ((idx (l108 : List Int) 22).bind fun y163 =>
  cond (Q3 .gtr y163 0)
  ((idx (l108 : List Int) 21).bind fun y166 =>
  cond (Q3 .eql y166 0)
  (some ([], 9))
  ((Jf N (l109.length : Int)).bind fun v169 =>
  cond (Q3 .neq v169.2 0)
  (some ([], 4))
  (cond (Nat.ble (v169.1.length + (l109.map fun n => UInt8.ofNat n.toNat).length) 4611686018427387904) (some ((v169.1 ++ (l109.map fun n => UInt8.ofNat n.toNat)), 0)) none)))
  ((Jf N (l109.length : Int)).bind fun v173 =>
  cond (Q3 .neq v173.2 0)
  (some ([], 4))
  (cond (Nat.ble (v173.1.length + (l109.map fun n => UInt8.ofNat n.toNat).length) 4611686018427387904) (some ((v173.1 ++ (l109.map fun n => UInt8.ofNat n.toNat)), 0)) none)))
def Wt (N : Nat) (kind : Int) (l : List Ql) : Option ((List UInt8) × Int) :=
 cond (Q3 .gtr ((Q8 Ql.cells l).length : Int) 1000)
 (some ([], 4))
 (Ze N kind l N 0 [0, 0, 0, 0, 0, 0, 0, 0, 0, 0, 0, 0, 0, 0, 0, 0, 0, 0, 0, 0, 0, 0, 0, 0, 0, 0, 0, 0, 0, 0, 0, 0, 0, 0, 0, 0, 0, 0, 0, 0, 0, 0, 0, 0, 0, 0, 0, 0, 0, 0, 0, 0, 0, 0, 0, 0, 0, 0, 0, 0, 0, 0, 0, 0] [])
theorem Vl {N} {kind} {l} {r} (h : Wt N kind l = some r) : pU 73 [.int .i64 kind, .slice 4 (Q8 Ql.cells l)] (.tuple [.str r.1, .int .i64 r.2]) := by
 refine Q2 k73 ?_;unfold Wt at h;rw [cX] at h;refine iL2 h fun h => ?_;refine Wz Qfu .nil ?_;refine lpA (τ := Int × (List Int) × (List Int)) (fun ⟨s107, _, l109⟩ => (iI kind :: a4 (.any :: .p (.pmap (Z1v (fun v => .agg (Qj.cells v)) F_prop_rules_tab)) :: .ptr 0 0 :: .slice 1 1 0 l109.length :: a8 (a2 (.p (.slice 4 (Q8 Ql.cells l)) :: iI ((Q8 Ql.cells l).length : Int) :: iI s107 :: a16 (a16 (a8 (a2 (.any :: []))))))) : List AV)) (fun ⟨_, l108, l109⟩ => (.cells (Zz (cI .i64) l108) :: .cells (Zz (cI .u8) l109) :: [] : List AObj)) (fun n0 ⟨s107, l108, l109⟩ => Ze N kind l n0 s107 l108 l109) (0, [0, 0, 0, 0, 0, 0, 0, 0, 0, 0, 0, 0, 0, 0, 0, 0, 0, 0, 0, 0, 0, 0, 0, 0, 0, 0, 0, 0, 0, 0, 0, 0, 0, 0, 0, 0, 0, 0, 0, 0, 0, 0, 0, 0, 0, 0, 0, 0, 0, 0, 0, 0, 0, 0, 0, 0, 0, 0, 0, 0, 0, 0, 0, 0], []) h fun n0 ⟨s107, l108, l109⟩ h => ?_
 first | rw [Ze] at h | simp only [Ze] at h
 rw [cX] at h;apply iU h <;> intro h
 ·refine xR h fun y111 h => ?_;refine Qyx h (fun m113 hm114 h => ?_) (fun hm114 h => ?_)
  ·refine cP h Q8n (.cons q4 (.cons (.p _) (.cons q4 .nil))) fun v115 h => ?_;refine iL2 h fun h => ?_;refine Qg k88 ?_;refine Qc ?_;obtain ⟨hk120, h⟩ := Q4v h;refine Q0k hk120 ?_;obtain ⟨y118, hy119, h⟩ := Js h
   refine Q76 (c := (cI .i64)) (e := 1) (fun _ => rfl) hy119 (off := 0) (by decide) (by first | omega | (simp only [Gi, orI, Qjs, Jr, Q27, Q6l]; omega)) ?_
   refine Q0k hk120 ?_;obtain ⟨y121, hy122, h⟩ := Js h;refine Q0k (Q39 (c := (cI .i64)) (e := 1) (fun _ => rfl) hy122 (off := 0) (by omega) rfl (by decide)) ?_
   refine Q31 (c := (cI .i64)) (e := 1) (fun _ => rfl) hy122 (IntKind.wrap .i64 (y118 + 1)) (off := 0) (by first | omega | (simp only [Gi, orI, Qjs, Jr, Q27, Q6l]; omega)) rfl (by simp) ?_
   refine Q0k hk120 ?_;obtain ⟨y123, hy124, h⟩ := Js h
   refine Q76 (c := (cI .i64)) (e := 1) (fun _ => rfl) hy124 (off := 0) (by decide) (by first | omega | (simp only [Gi, orI, Qjs, Jr, Q27, Q6l]; omega)) ?_
   apply iU h <;> intro h
   ·refine cP h Q87 p2 fun v126 h => ?_;refine iL2 h fun h => ?_;refine Qc ?_;obtain ⟨hk129, h⟩ := Q4v h;refine Q0k (Xk (c := (cI .u8)) (e := 1) (fun _ => rfl) sd hk129) ?_;refine Ux (c := (cI .u8)) [(IntKind.wrap .u8 y111.ID)] rfl ?_;refine cD h Q2r (.cons (.p _) (.cons q4 .nil)) fun v130 h => ?_;refine Q48 (b := v130) ?_;apply iU h <;> intro h
    ·show Exists _;exact ⟨(n0, (IntKind.wrap .i64 (s107 + 1)), ((l108 : List Int).set (Int.toNat y111.ID) (IntKind.wrap .i64 (y118 + 1))), (l109 ++ [(IntKind.wrap .u8 y111.ID)])), h, Le _, (rho [0, 5]), Zc⟩
    obtain ⟨hk133, h⟩ := Q4v h;refine Q0k (Xk (c := (cI .u8)) (e := 1) (l := (l109 ++ [(IntKind.wrap .u8 y111.ID)])) (fun _ => rfl) sd hk133) ?_;refine Ux (c := (cI .u8)) (l := (l109 ++ [(IntKind.wrap .u8 y111.ID)])) (v130.map fun b => (b.toNat : Int)) rfl ?_;show Exists _;exact ⟨(n0, (IntKind.wrap .i64 (s107 + 1)), ((l108 : List Int).set (Int.toNat y111.ID) (IntKind.wrap .i64 (y118 + 1))), ((l109 ++ [(IntKind.wrap .u8 y111.ID)]) ++ (v130.map fun b => (b.toNat : Int)))), h, Le _, (rho [0, 6]), Zc⟩
   refine Qc ?_;obtain ⟨hk134, h⟩ := Q4v h;refine Q0k (Xk (c := (cI .u8)) (e := 1) (fun _ => rfl) sd hk134) ?_;refine Ux (c := (cI .u8)) [(IntKind.wrap .u8 y111.ID)] rfl ?_;refine cD h Q2r (.cons (.p _) (.cons q4 .nil)) fun v135 h => ?_;refine Q48 (b := v135) ?_;apply iU h <;> intro h
   ·show Exists _;exact ⟨(n0, (IntKind.wrap .i64 (s107 + 1)), ((l108 : List Int).set (Int.toNat y111.ID) (IntKind.wrap .i64 (y118 + 1))), (l109 ++ [(IntKind.wrap .u8 y111.ID)])), h, Le _, (rho [0, 5]), Zc⟩
   obtain ⟨hk138, h⟩ := Q4v h;refine Q0k (Xk (c := (cI .u8)) (e := 1) (l := (l109 ++ [(IntKind.wrap .u8 y111.ID)])) (fun _ => rfl) sd hk138) ?_;refine Ux (c := (cI .u8)) (l := (l109 ++ [(IntKind.wrap .u8 y111.ID)])) (v135.map fun b => (b.toNat : Int)) rfl ?_;show Exists _;exact ⟨(n0, (IntKind.wrap .i64 (s107 + 1)), ((l108 : List Int).set (Int.toNat y111.ID) (IntKind.wrap .i64 (y118 + 1))), ((l109 ++ [(IntKind.wrap .u8 y111.ID)]) ++ (v135.map fun b => (b.toNat : Int)))), h, Le _, (rho [0, 6]), Zc⟩
  refine cP h Q8n (.cons q4 (.cons (.p _) (.cons q4 .nil))) fun v139 h => ?_;refine iL2 h fun h => ?_;refine Qg k88 ?_;refine Qc ?_;obtain ⟨hk144, h⟩ := Q4v h;refine Q0k hk144 ?_;obtain ⟨y142, hy143, h⟩ := Js h
  refine Q76 (c := (cI .i64)) (e := 1) (fun _ => rfl) hy143 (off := 0) (by decide) (by first | omega | (simp only [Gi, orI, Qjs, Jr, Q27, Q6l]; omega)) ?_
  refine Q0k hk144 ?_;obtain ⟨y145, hy146, h⟩ := Js h;refine Q0k (Q39 (c := (cI .i64)) (e := 1) (fun _ => rfl) hy146 (off := 0) (by omega) rfl (by decide)) ?_
  refine Q31 (c := (cI .i64)) (e := 1) (fun _ => rfl) hy146 (IntKind.wrap .i64 (y142 + 1)) (off := 0) (by first | omega | (simp only [Gi, orI, Qjs, Jr, Q27, Q6l]; omega)) rfl (by simp) ?_
  refine Q0k hk144 ?_;obtain ⟨y147, hy148, h⟩ := Js h
  refine Q76 (c := (cI .i64)) (e := 1) (fun _ => rfl) hy148 (off := 0) (by decide) (by first | omega | (simp only [Gi, orI, Qjs, Jr, Q27, Q6l]; omega)) ?_
  apply iU h <;> intro h
  ·refine cP h Q87 p2 fun v150 h => ?_;refine iL2 h fun h => ?_;refine Qc ?_;obtain ⟨hk153, h⟩ := Q4v h;refine Q0k (Xk (c := (cI .u8)) (e := 1) (fun _ => rfl) sd hk153) ?_;refine Ux (c := (cI .u8)) [(IntKind.wrap .u8 y111.ID)] rfl ?_;refine cD h Q2r (.cons (.p _) (.cons q4 .nil)) fun v154 h => ?_;refine Q48 (b := v154) ?_;apply iU h <;> intro h
   ·show Exists _;exact ⟨(n0, (IntKind.wrap .i64 (s107 + 1)), ((l108 : List Int).set (Int.toNat y111.ID) (IntKind.wrap .i64 (y142 + 1))), (l109 ++ [(IntKind.wrap .u8 y111.ID)])), h, Le _, (rho [0, 5]), Zc⟩
   obtain ⟨hk157, h⟩ := Q4v h;refine Q0k (Xk (c := (cI .u8)) (e := 1) (l := (l109 ++ [(IntKind.wrap .u8 y111.ID)])) (fun _ => rfl) sd hk157) ?_;refine Ux (c := (cI .u8)) (l := (l109 ++ [(IntKind.wrap .u8 y111.ID)])) (v154.map fun b => (b.toNat : Int)) rfl ?_;show Exists _;exact ⟨(n0, (IntKind.wrap .i64 (s107 + 1)), ((l108 : List Int).set (Int.toNat y111.ID) (IntKind.wrap .i64 (y142 + 1))), ((l109 ++ [(IntKind.wrap .u8 y111.ID)]) ++ (v154.map fun b => (b.toNat : Int)))), h, Le _, (rho [0, 6]), Zc⟩
  refine Qc ?_;obtain ⟨hk158, h⟩ := Q4v h;refine Q0k (Xk (c := (cI .u8)) (e := 1) (fun _ => rfl) sd hk158) ?_;refine Ux (c := (cI .u8)) [(IntKind.wrap .u8 y111.ID)] rfl ?_;refine cD h Q2r (.cons (.p _) (.cons q4 .nil)) fun v159 h => ?_;refine Q48 (b := v159) ?_;apply iU h <;> intro h
  ·show Exists _;exact ⟨(n0, (IntKind.wrap .i64 (s107 + 1)), ((l108 : List Int).set (Int.toNat y111.ID) (IntKind.wrap .i64 (y142 + 1))), (l109 ++ [(IntKind.wrap .u8 y111.ID)])), h, Le _, (rho [0, 5]), Zc⟩
  obtain ⟨hk162, h⟩ := Q4v h;refine Q0k (Xk (c := (cI .u8)) (e := 1) (l := (l109 ++ [(IntKind.wrap .u8 y111.ID)])) (fun _ => rfl) sd hk162) ?_;refine Ux (c := (cI .u8)) (l := (l109 ++ [(IntKind.wrap .u8 y111.ID)])) (v159.map fun b => (b.toNat : Int)) rfl ?_;show Exists _;exact ⟨(n0, (IntKind.wrap .i64 (s107 + 1)), ((l108 : List Int).set (Int.toNat y111.ID) (IntKind.wrap .i64 (y142 + 1))), ((l109 ++ [(IntKind.wrap .u8 y111.ID)]) ++ (v159.map fun b => (b.toNat : Int)))), h, Le _, (rho [0, 6]), Zc⟩
 refine Qg k90 ?_;obtain ⟨y163, hy164, h⟩ := Js h;refine Q76 (c := (cI .i64)) (e := 1) (n := 1) (j := 22) (fun _ => rfl) hy164 (off := 0) (by decide) rfl ?_;apply iU h <;> intro h
 ·obtain ⟨y166, hy167, h⟩ := Js h;refine Q76 (c := (cI .i64)) (e := 1) (n := 1) (j := 21) (fun _ => rfl) hy167 (off := 0) (by decide) rfl ?_;refine iL2 h fun h => ?_;refine cP h Q3l p1 fun v169 h => ?_;refine iL2 h fun h => ?_;refine Qhx (l := l109) (n := l109.length) sd ?_;refine kU h fun h => ?_;obtain rfl := Qb h; exact u2
 refine cP h Q3l p1 fun v173 h => ?_;refine iL2 h fun h => ?_;refine Qhx (l := l109) (n := l109.length) sd ?_;refine kU h fun h => ?_;obtain rfl := Qb h; exact u2
def Zl (N : Nat) (kind : Int) (l : List Ql) : Option (Int) :=
 (Wt N kind l).bind fun v1 =>
 some v1.2
theorem Yg {N} {kind} {l} {r} (h : Zl N kind l = some r) : pU 55 [.int .i64 kind, .slice 4 (Q8 Ql.cells l)] (.int .i64 r) := by
 refine Q2 k55 ?_;unfold Zl at h;refine cP h Vl p2 fun v1 h => ?_;cases h; exact (.p _)
def Q06 (N : Nat) (version : Int) (p : Qa) : Option (Int) :=
 (Q0r N version p.Kind).bind fun v1 =>
 cond (Q3 .neq v1 0)
 (some v1)
 ((Gk N version p.Kind).bind fun v4 =>
 cond v4.1
 ((Ju N p.Kind p.Code).bind fun v7 =>
 cond (!v7)
 (some 2)
 ((Za N p (⟨p.Kind, false, false, 0, 0, [], [], false, 0, [], false, [], false, [], false, (⟨[], [], 0, false, []⟩ : Q10), false, p.Code, [], [], p.Props⟩ : Qa)).bind fun v10 =>
 cond (!v10)
 (some 2)
 ((Zl N p.Kind p.Props).bind fun v13 =>
 some v13)))
 ((Za N p (⟨p.Kind, false, false, 0, 0, [], [], false, 0, [], false, [], false, [], false, (⟨[], [], 0, false, []⟩ : Q10), false, 0, [], [], []⟩ : Qa)).bind fun v15 =>
 cond (!v15)
 (some 2)
 ((Zl N p.Kind p.Props).bind fun v18 =>
 some v18)))
theorem Qax {N} {version} {p} {r} (h : Q06 N version p = some r) : pU 212 [.int .i64 version, .agg (Qa.cells p)] (.int .i64 r) := by
 refine Q2 Zar ?_;unfold Q06 at h;rw [cX] at h;refine cP h Qbx p2 fun v1 h => ?_;refine iL h fun h => ?_;refine cP h Q6s p2 fun v4 h => ?_;apply iU h <;> intro h
 ·refine cP h Q02 p2 fun v7 h => ?_;refine iL h fun h => ?_;refine Qc ?_;refine cP h Qs (.cons (Frz.agg' (Xt (f2_ (f1_ (.cons (.p _) p5))))) (.cons (Frz.agg' (Xt (f2_ (f1_ (.cons (.nil _) (f2_ (.cons (.nil _) (.cons (.nil _) p1)))))))) .nil)) fun v10 h => ?_;refine iL h fun h => ?_;refine cP h Yg p2 fun v13 h => ?_;cases h; exact (.p _)
 refine cP h Qs (.cons (Frz.agg' (Xt (f2_ (f1_ (.cons (.p _) p5))))) (.cons (Frz.agg' (Xt (f2_ (f1_ (.cons (.nil _) (f2_ (.cons (.nil _) (.cons (.nil _) (.cons (.nil _) .nil))))))))) .nil)) fun v15 h => ?_;refine iL h fun h => ?_;refine cP h Yg p2 fun v18 h => ?_;cases h; exact (.p _)
def Q3s (N : Nat) (code : Int) (l : List Ql) (kind : Int) : Option (List UInt8) :=
 (Wt N kind l).bind fun v1 =>
 cond (Q3 .lss code 0)
 (some [])
 (cond (Q3 .gtr code 255)
 (some [])
 (cond (Q3 .neq v1.2 0)
 (some [])
 ((Qk N (IntKind.wrap .u64 code) 1).bind fun v6 =>
 cond (Q3 .gtr ((Q8 Ql.cells l).length : Int) 0)
 (cond (Nat.ble (v6.length + v1.1.length) 4611686018427387904) (some (v6 ++ v1.1)) none)
 (cond (Q3 .gtr code 0)
 (some v6)
 (some [])))))
theorem Qdc {N} {code} {l} {kind} {r} (h : Q3s N code l kind = some r) : pU 213 [.int .i64 code, .slice 4 (Q8 Ql.cells l), .int .i64 kind] (.str r) := by
 refine Q2 Zeh ?_;unfold Q3s at h;rw [cX] at h;refine cP h Vl p2 fun v1 h => ?_;refine iL h fun h => ?_;refine iL h fun h => ?_;refine iL h fun h => ?_;refine cP h Qf p2 fun v6 h => ?_;apply iU h <;> intro h
 ·refine kU h fun h => ?_;cases h; exact (.p _)
 exact iB h
def Q1j (N : Nat) (version : Int) (p : Qa) : Option ((List UInt8) × Int) :=
 (Q06 N version p).bind fun v1 =>
 cond (Q3 .neq v1 0)
 (some ([], v1))
 ((Q3s N p.Code p.Props p.Kind).bind fun v4 =>
 some (v4, 0))
theorem Qcq {N} {version} {p} {r} (h : Q1j N version p = some r) : pU 163 [.int .i64 version, .agg (Qa.cells p)] (.tuple [.str r.1, .int .i64 r.2]) := by
 refine Q2 Zc0 ?_;unfold Q1j at h;rw [cX] at h;refine cP h Qax (.cons (.p _) (.cons (Frz.agg' (Xt (f2_ (f1_ (.cons (.p _) p5))))) .nil)) fun v1 h => ?_;refine iL2 h fun h => ?_;refine cP h Qdc p3 fun v4 h => ?_;obtain rfl := Qb h; exact u2
def Yn (N : Nat) (d : Z8) : Option ((List UInt8) × Int) :=
 (Q1j N d.version d.p).bind fun v1 =>
 some (v1.1, v1.2)
theorem U9 {N} {d} {r} (h : Yn N d = some r) : pU 128 [.agg (Z8.cells d)] (.tuple [.str r.1, .int .i64 r.2]) := by
 refine Q2 Z5v ?_;unfold Yn at h;refine cP h Qcq (.cons (.p _) (.cons (Frz.agg' (Xt (f2_ (f1_ (.cons (.p _) p5))))) .nil)) fun v1 h => ?_;obtain rfl := Qb h; exact u2
def Q61 (_N : Nat) (version : Int) (kind : Int) : Option (Bool) :=
 cond (Q3 .eql version 5)
 (cond (Q3 .geq kind 1)
 (some (Q3 .leq kind 15))
 (some false))
 (cond (Q3 .geq kind 1)
 (some (Q3 .leq kind 14))
 (some false))
theorem Qgi {N} {version} {kind} {r} (h : Q61 N version kind = some r) : pU 264 [.int .i64 version, .int .i64 kind] (.bool r) := by
 refine Q2 Ze5 ?_;unfold Q61 at h;rw [cX] at h;apply iU h <;> intro h
 ·exact iB h
 exact iB h
def Q60 (_N : Nat) (kind : Int) : Option (Int) :=
 cond (Q3 .eql kind 6)
 (some 2)
 (cond (Q3 .eql kind 8)
 (some 2)
 (cond (Q3 .eql kind 10)
 (some 2)
 (some 0)))
theorem Qf3 {N} {kind} {r} (h : Q60 N kind = some r) : pU 301 [.int .i64 kind] (.int .i64 r) := by
 refine Q2 Z5u ?_;unfold Q60 at h;rw [cX] at h;refine ifO h (fun hc1 h => ?_) (fun hc1 h => ?_)
 ·refine ifT hc1 ?_;cases h; exact (.p _)
 refine ifO h (fun hc2 h => ?_) (fun hc2 h => ?_)
 ·refine ifT hc2 ?_;cases h; exact (.p _)
 exact iB h
def Q66 (_N : Nat) (version : Int) : Option (Bool) :=
 cond (Q3 .eql version 4)
 (some true)
 (some (Q3 .eql version 5))
theorem Qf5 {N} {version} {r} (h : Q66 N version = some r) : pU 263 [.int .i64 version] (.bool r) := by
 refine Q2 Zeu ?_;unfold Q66 at h;rw [cX] at h;exact iB h
def Q26 (N : Nat) (version : Int) (p : Qa) : Option (Int × Int) :=
 (Q66 N version).bind fun v1 =>
 cond (!v1)
 (some (0, 2))
 ((Q61 N version p.Kind).bind fun v4 =>
 cond (!v4)
 (some (0, 8))
 (cond (Q3 .neq p.Kind 3)
 ((Q60 N p.Kind).bind fun v8 =>
 some (v8, 0))
 (cond (Q3 .lss p.QoS 0)
 (some (0, 7))
 (cond (Q3 .gtr p.QoS 2)
 (some (0, 7))
 (cond (Q3 .eql p.QoS 0)
 (cond p.Dup
 (some (0, 7))
 (cond p.Retain
 (some ((orI .i64 (IntKind.wrap .i64 (p.QoS * 2)) 1), 0))
 (some ((IntKind.wrap .i64 (p.QoS * 2)), 0))))
 (cond p.Retain
 (cond p.Dup
 (some ((orI .i64 (orI .i64 (IntKind.wrap .i64 (p.QoS * 2)) 1) 8), 0))
 (some ((orI .i64 (IntKind.wrap .i64 (p.QoS * 2)) 1), 0)))
 (cond p.Dup
 (some ((orI .i64 (IntKind.wrap .i64 (p.QoS * 2)) 8), 0))
 (some ((IntKind.wrap .i64 (p.QoS * 2)), 0)))))))))
theorem Q8a {N} {version} {p} {r} (h : Q26 N version p = some r) : pU 257 [.int .i64 version, .agg (Qa.cells p)] (.tuple [.int .i64 r.1, .int .i64 r.2]) := by
 refine Q2 Z9c ?_;unfold Q26 at h;rw [cX] at h;refine cP h Qf5 p1 fun v1 h => ?_;refine iL2 h fun h => ?_;refine cP h Qgi p2 fun v4 h => ?_;refine iL2 h fun h => ?_;apply iU h <;> intro h
 ·refine cP h Qf3 p1 fun v8 h => ?_;obtain rfl := Qb h; exact u2
 refine iL2 h fun h => ?_;refine iL2 h fun h => ?_;apply iU h <;> intro h
 ·refine oL2 h fun hc13 h => ?_;apply iU h <;> intro h
  ·refine ifF hc13 ?_;obtain rfl := Qb h; exact u2
  refine ifF hc13 ?_;obtain rfl := Qb h; exact u2
 apply iU h <;> intro h
 ·exact iB2 h
 exact iB2 h
def Uz (N : Nat) (version : Int) (p : Qa) : Option (Bool) :=
 (Za N p (⟨p.Kind, p.Dup, p.Retain, p.QoS, p.ID, p.Topic, p.Payload, false, 0, [], false, [], false, [], false, (⟨[], [], 0, false, []⟩ : Q10), false, 0, [], [], p.Props⟩ : Qa)).bind fun v1 =>
 cond (!v1)
 (some false)
 (cond (Q3 .eql version 4)
 (cond (Q3 .gtr ((Q8 Ql.cells p.Props).length : Int) 0)
 (some false)
 (cond (Q3 .eql p.QoS 0)
 (some (Q3 .eql p.ID 0))
 (cond (Q3 .gtr p.ID 0)
 (some (Q3 .lss p.ID 65536))
 (some false))))
 (cond (Q3 .eql p.QoS 0)
 (some (Q3 .eql p.ID 0))
 (cond (Q3 .gtr p.ID 0)
 (some (Q3 .lss p.ID 65536))
 (some false))))
theorem Q5j {N} {version} {p} {r} (h : Uz N version p = some r) : pU 259 [.int .i64 version, .agg (Qa.cells p)] (.bool r) := by
 refine Q2 Zeq ?_;unfold Uz at h;rw [cX] at h;refine cP h Qs (.cons (Frz.agg' (Xt (f2_ (f1_ (.cons (.p _) p5))))) (.cons (Frz.agg' (Xt (f2_ (f1_ (.cons (.nil _) (f2_ (.cons (.nil _) (.cons (.nil _) p1)))))))) .nil)) fun v1 h => ?_;refine iL h fun h => ?_;apply iU h <;> intro h
 ·refine iL h fun h => ?_;refine iL h fun h => ?_;exact iB h
 refine iL h fun h => ?_;exact iB h
def Wf (_N : Nat) (is : Bool) (e : Int) : Option (Int) :=
 cond is
 (some e)
 (some 0)
theorem Ug {N} {is} {e} {r} (h : Wf N is e = some r) : pU 255 [.bool is, .int .i64 e] (.int .i64 r) := by
 refine Q2 Z95 ?_;unfold Wf at h;exact iB h
def G6 (N : Nat) (l : List Ql) (id : Int) : Nat → Int → Option (Ql × Bool)
 | 0, _ => none
 | n + 1, s10 =>
  cond (Q3 .lss s10 ((Q8 Ql.cells l).length : Int))
  ((idx l s10).bind fun y12 =>
  cond (Q3 .eql y12.ID id)
  (some (y12, true))
  (G6 N l id n (IntKind.wrap .i64 (s10 + 1))))
  (some ((⟨0, 0, [], []⟩ : Ql), false))
def Q4y (N : Nat) (l : List Ql) (id : Int) : Option (Ql × Bool) :=
 G6 N l id N 0
theorem Qjl {N} {l} {id} {r} (h : Q4y N l id = some r) : pU 332 [.slice 4 (Q8 Ql.cells l), .int .i64 id] (.tuple [.agg (Ql.cells r.1), .bool r.2]) := by
 refine Q2 Zbz ?_;unfold Q4y at h;refine lpH (τ := Int) (fun s10 => (.any :: iI id :: .any :: .any :: .ptr 0 0 :: a2 (.any :: .p (.slice 4 (Q8 Ql.cells l)) :: iI ((Q8 Ql.cells l).length : Int) :: iI s10 :: a8 (a2 ([]))) : List AV)) (fun n0 s10 => G6 N l id n0 s10) (0) h fun n0 s10 h => ?_
 first | rw [G6] at h | simp only [G6] at h
 rw [cX] at h;apply iU h <;> intro h
 ·refine xR h fun y12 h => ?_;apply iU h <;> intro h
  ·obtain rfl := Qb h; exact (Frz.tuple' (.cons q4 p1))
  show Exists _;exact ⟨(n0, (IntKind.wrap .i64 (s10 + 1))), h, Le _, (fun i => i), Zc⟩
 obtain rfl := Qb h; exact (Frz.tuple' (.cons q4 p1))
def Q2t (N : Nat) (p : Qa) : Option (Int × Bool) :=
 (Q4y N p.Props 35).bind fun v1 =>
 some ((IntKind.wrap .i64 v1.1.N'), v1.2)
theorem Qbg {N} {p} {r} (h : Q2t N p = some r) : pU 302 [.agg (Qa.cells p)] (.tuple [.int .i64 r.1, .bool r.2]) := by
 refine Q2 Z61 ?_;unfold Q2t at h;refine cP h Qjl p2 fun v1 h => ?_;obtain rfl := Qb h; exact u2
def Jl (N : Nat) (version : Int) (p : Qa) : Option (Bool) :=
 (Q2t N p).bind fun v1 =>
 (Z5 N p.Topic).bind fun v3 =>
 cond v3
 (some true)
 (cond (Q3 .eql version 5)
 (cond v1.2
 (some (Q4o .eql p.Topic []))
 (some false))
 (some false))
theorem Q5x {N} {version} {p} {r} (h : Jl N version p = some r) : pU 261 [.int .i64 version, .agg (Qa.cells p)] (.bool r) := by
 refine Q2 Z5i ?_;unfold Jl at h;rw [cX, cY] at h;refine cP h Qbg (.cons (Frz.agg' (Xt (f2_ (f1_ (.cons (.p _) p5))))) .nil) fun v1 h => ?_;refine cP h Yi p1 fun v3 h => ?_;refine iL h fun h => ?_;refine iR h fun h => ?_;exact iB h
def Gv (_N : Nat) (version : Int) : Option (Bool) :=
 cond (Q3 .eql version 4)
 (some true)
 (some (Q3 .eql version 5))
theorem Qcb {N} {version} {r} (h : Gv N version = some r) : pU 218 [.int .i64 version] (.bool r) := by
 refine Q2 Zcn ?_;unfold Gv at h;rw [cX] at h;exact iB h
def Gw (N : Nat) (version : Int) (p : Qa) : Option (Int) :=
 (Gv N version).bind fun v1 =>
 cond (!v1)
 ((Wf N true 2).bind fun v4 =>
 cond (Q3 .neq v4 0)
 (some v4)
 ((Q26 N version p).bind fun v7 =>
 cond (Q3 .neq v7.2 0)
 (some v7.2)
 ((Uz N version p).bind fun v10 =>
 (Wf N (!v10) 2).bind fun v12 =>
 cond (Q3 .neq v12 0)
 (some v12)
 ((Jl N version p).bind fun v15 =>
 (Wf N (!v15) 10).bind fun v17 =>
 cond (Q3 .neq v17 0)
 (some v17)
 ((Zl N 3 p.Props).bind fun v20 =>
 cond (Q3 .neq v20 0)
 (some v20)
 (some 0))))))
 ((Wf N (Q3 .neq p.Kind 3) 2).bind fun v23 =>
 cond (Q3 .neq v23 0)
 (some v23)
 ((Q26 N version p).bind fun v26 =>
 cond (Q3 .neq v26.2 0)
 (some v26.2)
 ((Uz N version p).bind fun v29 =>
 (Wf N (!v29) 2).bind fun v31 =>
 cond (Q3 .neq v31 0)
 (some v31)
 ((Jl N version p).bind fun v34 =>
 (Wf N (!v34) 10).bind fun v36 =>
 cond (Q3 .neq v36 0)
 (some v36)
 ((Zl N 3 p.Props).bind fun v39 =>
 cond (Q3 .neq v39 0)
 (some v39)
 (some 0))))))
theorem Qbk {N} {version} {p} {r} (h : Gw N version p = some r) : pU 217 [.int .i64 version, .agg (Qa.cells p)] (.int .i64 r) := by
 refine Q2 Zbk ?_;unfold Gw at h;rw [cX] at h;refine Z9 7 ?_;refine dT ?_;refine Qg Zbp ?_;refine cP h Qcb p1 fun v1 h => ?_;apply iU h <;> intro h
 ·refine cP h Ug p2 fun v4 h => ?_;refine iL h fun h => ?_;refine dT ?_;refine Qg Z4d ?_;refine cP h Q8a (.cons (.p _) (.cons (Frz.agg' (Xt (f2_ (f1_ (.cons (.p _) p5))))) .nil)) fun v7 h => ?_;refine iL h fun h => ?_;refine dT ?_;refine Qg Z3t ?_;refine cP h Q5j (.cons (.p _) (.cons (Frz.agg' (Xt (f2_ (f1_ (.cons (.p _) p5))))) .nil)) fun v10 h => ?_;refine cP h Ug p2 fun v12 h => ?_;refine iL h fun h => ?_;refine dT ?_;refine Qg Z4v ?_;refine cP h Q5x (.cons (.p _) (.cons (Frz.agg' (Xt (f2_ (f1_ (.cons (.p _) p5))))) .nil)) fun v15 h => ?_;refine cP h Ug p2 fun v17 h => ?_;refine iL h fun h => ?_;refine dT ?_;refine Qg Z4n ?_;refine cP h Yg p2 fun v20 h => ?_;refine iL h fun h => ?_;refine dF ?_;cases h; exact (.p _)
 refine cP h Ug p2 fun v23 h => ?_;refine iL h fun h => ?_;refine dT ?_;refine Qg Z4d ?_;refine cP h Q8a (.cons (.p _) (.cons (Frz.agg' (Xt (f2_ (f1_ (.cons (.p _) p5))))) .nil)) fun v26 h => ?_;refine iL h fun h => ?_;refine dT ?_;refine Qg Z3t ?_;refine cP h Q5j (.cons (.p _) (.cons (Frz.agg' (Xt (f2_ (f1_ (.cons (.p _) p5))))) .nil)) fun v29 h => ?_;refine cP h Ug p2 fun v31 h => ?_;refine iL h fun h => ?_;refine dT ?_;refine Qg Z4v ?_;refine cP h Q5x (.cons (.p _) (.cons (Frz.agg' (Xt (f2_ (f1_ (.cons (.p _) p5))))) .nil)) fun v34 h => ?_;refine cP h Ug p2 fun v36 h => ?_;refine iL h fun h => ?_;refine dT ?_;refine Qg Z4n ?_;refine cP h Yg p2 fun v39 h => ?_;refine iL h fun h => ?_;refine dF ?_;cases h; exact (.p _)
def Gm (N : Nat) (s_0 : List UInt8) : Option ((List UInt8) × Int) :=
 (Qz N s_0).bind fun v1 =>
 cond (!v1)
 (some ([], 6))
 ((J0 N s_0).bind fun v4 =>
 some (v4, 0))
theorem Q6u {N} {s_0} {r} (h : Gm N s_0 = some r) : pU 205 [.str s_0] (.tuple [.str r.1, .int .i64 r.2]) := by
 refine Q2 Zfe ?_;unfold Gm at h;refine cP h Zn p1 fun v1 h => ?_;refine iL2 h fun h => ?_;refine cP h Q5i p1 fun v4 h => ?_;obtain rfl := Qb h; exact u2
def Q1d (N : Nat) (version : Int) (p : Qa) : Option ((List UInt8) × Int) :=
 (Gw N version p).bind fun v1 =>
 cond (Q3 .neq v1 0)
 (some ([], v1))
 ((Gm N p.Topic).bind fun v4 =>
 cond (Q3 .neq p.QoS 0)
 ((Qk N (IntKind.wrap .u64 p.ID) 2).bind fun v7 =>
 cond (Nat.ble (v4.1.length + v7.length) 4611686018427387904) (cond (Q3 .eql version 5)
 ((Wt N p.Kind p.Props).bind fun v11 =>
 cond (Nat.ble ((v4.1 ++ v7).length + v11.1.length) 4611686018427387904) (cond (Nat.ble (((v4.1 ++ v7) ++ v11.1).length + p.Payload.length) 4611686018427387904) (some ((((v4.1 ++ v7) ++ v11.1) ++ p.Payload), 0)) none) none)
 (cond (Nat.ble ((v4.1 ++ v7).length + p.Payload.length) 4611686018427387904) (some (((v4.1 ++ v7) ++ p.Payload), 0)) none)) none)
 (cond (Q3 .eql version 5)
 ((Wt N p.Kind p.Props).bind fun v17 =>
 cond (Nat.ble (v4.1.length + v17.1.length) 4611686018427387904) (cond (Nat.ble ((v4.1 ++ v17.1).length + p.Payload.length) 4611686018427387904) (some (((v4.1 ++ v17.1) ++ p.Payload), 0)) none) none)
 (cond (Nat.ble (v4.1.length + p.Payload.length) 4611686018427387904) (some ((v4.1 ++ p.Payload), 0)) none)))
theorem Qcv {N} {version} {p} {r} (h : Q1d N version p = some r) : pU 165 [.int .i64 version, .agg (Qa.cells p)] (.tuple [.str r.1, .int .i64 r.2]) := by
 refine Q2 Zez ?_;unfold Q1d at h;rw [cX] at h;refine cP h Qbk (.cons (.p _) (.cons (Frz.agg' (Xt (f2_ (f1_ (.cons (.p _) p5))))) .nil)) fun v1 h => ?_;refine iL2 h fun h => ?_;refine cP h Q6u p1 fun v4 h => ?_;apply iU h <;> intro h
 ·refine cP h Qf p2 fun v7 h => ?_;refine kU h fun h => ?_;apply iU h <;> intro h
  ·refine cP h Vl p2 fun v11 h => ?_;refine kU h fun h => ?_;refine kU h fun h => ?_;obtain rfl := Qb h; exact u2
  refine kU h fun h => ?_;obtain rfl := Qb h; exact u2
 apply iU h <;> intro h
 ·refine cP h Vl p2 fun v17 h => ?_;refine kU h fun h => ?_;refine kU h fun h => ?_;obtain rfl := Qb h; exact u2
 refine kU h fun h => ?_;obtain rfl := Qb h; exact u2
def U6 (N : Nat) (d : Z8) : Option ((List UInt8) × Int) :=
 (Q1d N d.version d.p).bind fun v1 =>
 some (v1.1, v1.2)
theorem Q77 {N} {d} {r} (h : U6 N d = some r) : pU 130 [.agg (Z8.cells d)] (.tuple [.str r.1, .int .i64 r.2]) := by
 refine Q2 Zb6 ?_;unfold U6 at h;refine cP h Qcv (.cons (.p _) (.cons (Frz.agg' (Xt (f2_ (f1_ (.cons (.p _) p5))))) .nil)) fun v1 h => ?_;obtain rfl := Qb h; exact u2
def Q1l (_N : Nat) (kind : Int) : Option (Bool) :=
 cond (Q3 .eql kind 1)
 (some true)
 (some (Q3 .eql kind 2))
theorem Qcp {N} {kind} {r} (h : Q1l N kind = some r) : pU 192 [.int .i64 kind] (.bool r) := by
 refine Q2 Zcy ?_;unfold Q1l at h;rw [cX] at h;exact iB h
def Gz (N : Nat) (p : Qa) : Option (Bool) :=
 cond (Q3 .eql p.Kind 2)
 ((Za N p (⟨p.Kind, false, false, 0, 0, [], [], false, 0, [], false, [], false, [], false, (⟨[], [], 0, false, []⟩ : Q10), p.Session, p.Code, [], [], p.Props⟩ : Qa)).bind fun v2 =>
 some v2)
 (cond p.HasWill
 (cond p.HasUser
 (cond p.HasPass
 ((Za N p (⟨p.Kind, false, false, 0, 0, [], [], p.Clean, p.KeepAlive, p.Client, p.HasUser, p.User, p.HasPass, p.Pass, p.HasWill, p.Will, false, 0, [], [], p.Props⟩ : Qa)).bind fun v7 =>
 some v7)
 ((Za N p (⟨p.Kind, false, false, 0, 0, [], [], p.Clean, p.KeepAlive, p.Client, p.HasUser, p.User, p.HasPass, [], p.HasWill, p.Will, false, 0, [], [], p.Props⟩ : Qa)).bind fun v9 =>
 some v9))
 (cond p.HasPass
 ((Za N p (⟨p.Kind, false, false, 0, 0, [], [], p.Clean, p.KeepAlive, p.Client, p.HasUser, [], p.HasPass, p.Pass, p.HasWill, p.Will, false, 0, [], [], p.Props⟩ : Qa)).bind fun v12 =>
 some v12)
 ((Za N p (⟨p.Kind, false, false, 0, 0, [], [], p.Clean, p.KeepAlive, p.Client, p.HasUser, [], p.HasPass, [], p.HasWill, p.Will, false, 0, [], [], p.Props⟩ : Qa)).bind fun v14 =>
 some v14)))
 (cond p.HasUser
 (cond p.HasPass
 ((Za N p (⟨p.Kind, false, false, 0, 0, [], [], p.Clean, p.KeepAlive, p.Client, p.HasUser, p.User, p.HasPass, p.Pass, p.HasWill, (⟨[], [], 0, false, []⟩ : Q10), false, 0, [], [], p.Props⟩ : Qa)).bind fun v18 =>
 some v18)
 ((Za N p (⟨p.Kind, false, false, 0, 0, [], [], p.Clean, p.KeepAlive, p.Client, p.HasUser, p.User, p.HasPass, [], p.HasWill, (⟨[], [], 0, false, []⟩ : Q10), false, 0, [], [], p.Props⟩ : Qa)).bind fun v20 =>
 some v20))
 (cond p.HasPass
 ((Za N p (⟨p.Kind, false, false, 0, 0, [], [], p.Clean, p.KeepAlive, p.Client, p.HasUser, [], p.HasPass, p.Pass, p.HasWill, (⟨[], [], 0, false, []⟩ : Q10), false, 0, [], [], p.Props⟩ : Qa)).bind fun v23 =>
 some v23)
 ((Za N p (⟨p.Kind, false, false, 0, 0, [], [], p.Clean, p.KeepAlive, p.Client, p.HasUser, [], p.HasPass, [], p.HasWill, (⟨[], [], 0, false, []⟩ : Q10), false, 0, [], [], p.Props⟩ : Qa)).bind fun v25 =>
 some v25))))
theorem Qc1 {N} {p} {r} (h : Gz N p = some r) : pU 235 [.agg (Qa.cells p)] (.bool r) := by
 refine Q2 Z7e ?_;unfold Gz at h;rw [cX] at h;apply iU h <;> intro h
 ·refine Qc ?_;refine cP h Qs (.cons (Frz.agg' (Xt (f2_ (f1_ (.cons (.p _) p5))))) (.cons (Frz.agg' (Xt (f2_ (f1_ (.cons (.nil _) (f2_ (.cons (.nil _) (.cons (.nil _) p1)))))))) .nil)) fun v2 h => ?_;cases h; exact (.p _)
 refine Qc ?_;apply iU h <;> intro h
 ·apply iU h <;> intro h
  ·apply iU h <;> intro h
   ·refine cP h Qs (.cons (Frz.agg' (Xt (f2_ (f1_ (.cons (.p _) p5))))) (.cons (Frz.agg' (Xt (f4_ (f2_ (.cons (.nil _) (.cons (.nil _) p1)))))) .nil)) fun v7 h => ?_;cases h; exact (.p _)
   refine cP h Qs (.cons (Frz.agg' (Xt (f2_ (f1_ (.cons (.p _) p5))))) (.cons (Frz.agg' (Xt (f4_ (f2_ (.cons (.nil _) (.cons (.nil _) p1)))))) .nil)) fun v9 h => ?_;cases h; exact (.p _)
  apply iU h <;> intro h
  ·refine cP h Qs (.cons (Frz.agg' (Xt (f2_ (f1_ (.cons (.p _) p5))))) (.cons (Frz.agg' (Xt (f4_ (f2_ (.cons (.nil _) (.cons (.nil _) p1)))))) .nil)) fun v12 h => ?_;cases h; exact (.p _)
  refine cP h Qs (.cons (Frz.agg' (Xt (f2_ (f1_ (.cons (.p _) p5))))) (.cons (Frz.agg' (Xt (f4_ (f2_ (.cons (.nil _) (.cons (.nil _) p1)))))) .nil)) fun v14 h => ?_;cases h; exact (.p _)
 apply iU h <;> intro h
 ·apply iU h <;> intro h
  ·refine cP h Qs (.cons (Frz.agg' (Xt (f2_ (f1_ (.cons (.p _) p5))))) (.cons (Frz.agg' (Xt (f2_ (f1_ (.cons (.nil _) (f2_ (.cons (.nil _) (.cons (.nil _) p1)))))))) .nil)) fun v18 h => ?_;cases h; exact (.p _)
  refine cP h Qs (.cons (Frz.agg' (Xt (f2_ (f1_ (.cons (.p _) p5))))) (.cons (Frz.agg' (Xt (f2_ (f1_ (.cons (.nil _) (f2_ (.cons (.nil _) (.cons (.nil _) p1)))))))) .nil)) fun v20 h => ?_;cases h; exact (.p _)
 apply iU h <;> intro h
 ·refine cP h Qs (.cons (Frz.agg' (Xt (f2_ (f1_ (.cons (.p _) p5))))) (.cons (Frz.agg' (Xt (f2_ (f1_ (.cons (.nil _) (f2_ (.cons (.nil _) (.cons (.nil _) p1)))))))) .nil)) fun v23 h => ?_;cases h; exact (.p _)
 refine cP h Qs (.cons (Frz.agg' (Xt (f2_ (f1_ (.cons (.p _) p5))))) (.cons (Frz.agg' (Xt (f2_ (f1_ (.cons (.nil _) (f2_ (.cons (.nil _) (.cons (.nil _) p1)))))))) .nil)) fun v25 h => ?_;cases h; exact (.p _)
def Q0e (_N : Nat) (code : Int) : Option (Bool) :=
 cond (Q3 .leq 0 code)
 (some (Q3 .leq code 5))
 (some false)
theorem Qc7 {N} {code} {r} (h : Q0e N code = some r) : pU 288 [.int .i64 code] (.bool r) := by
 refine Q2 Z8m ?_;unfold Q0e at h;rw [cX] at h;exact iB h
def Ge (N : Nat) (version : Int) (p : Qa) : Option (Bool) :=
 cond (Q3 .eql version 4)
 (cond (Q3 .gtr (IntKind.wrap .i64 (((Q8 Ql.cells p.Props).length : Int) + ((Q8 Ql.cells p.Will.Props).length : Int))) 0)
 (some false)
 (cond (Q3 .eql p.Kind 2)
 ((Ju N p.Kind p.Code).bind fun v4 =>
 (Q0e N p.Code).bind fun v6 =>
 cond v6
 (cond (Q3 .eql p.Code 0)
 (some true)
 (some (!p.Session)))
 (some false))
 (cond (Q4o .eql p.Client [])
 (cond (!p.Clean)
 (some false)
 (cond p.HasPass
 (cond (!p.HasUser)
 (some false)
 (cond (Q3 .geq p.KeepAlive 0)
 (cond (Q3 .lss p.KeepAlive 65536)
 (cond (Q3 .geq p.Will.QoS 0)
 (some (Q3 .leq p.Will.QoS 2))
 (some false))
 (some false))
 (some false)))
 (cond (Q3 .geq p.KeepAlive 0)
 (cond (Q3 .lss p.KeepAlive 65536)
 (cond (Q3 .geq p.Will.QoS 0)
 (some (Q3 .leq p.Will.QoS 2))
 (some false))
 (some false))
 (some false))))
 (cond p.HasPass
 (cond (!p.HasUser)
 (some false)
 (cond (Q3 .geq p.KeepAlive 0)
 (cond (Q3 .lss p.KeepAlive 65536)
 (cond (Q3 .geq p.Will.QoS 0)
 (some (Q3 .leq p.Will.QoS 2))
 (some false))
 (some false))
 (some false)))
 (cond (Q3 .geq p.KeepAlive 0)
 (cond (Q3 .lss p.KeepAlive 65536)
 (cond (Q3 .geq p.Will.QoS 0)
 (some (Q3 .leq p.Will.QoS 2))
 (some false))
 (some false))
 (some false))))))
 (cond (Q3 .eql p.Kind 2)
 ((Ju N p.Kind p.Code).bind fun v29 =>
 cond v29
 (cond (Q3 .eql p.Code 0)
 (some true)
 (some (!p.Session)))
 (some false))
 (cond (Q3 .geq p.KeepAlive 0)
 (cond (Q3 .lss p.KeepAlive 65536)
 (cond (Q3 .geq p.Will.QoS 0)
 (some (Q3 .leq p.Will.QoS 2))
 (some false))
 (some false))
 (some false)))
theorem Qal {N} {version} {p} {r} (h : Ge N version p = some r) : pU 236 [.int .i64 version, .agg (Qa.cells p)] (.bool r) := by
 refine Q2 Zae ?_;unfold Ge at h;rw [cX, cY] at h;refine ifO h (fun hc1 h => ?_) (fun hc1 h => ?_)
 ·refine iL h fun h => ?_;apply iU h <;> intro h
  ·refine cP h Q02 p2 fun v4 h => ?_;refine ifT hc1 ?_;refine cP h Qc7 p1 fun v6 h => ?_;refine iR h fun h => ?_;exact iB h
  refine ifT hc1 ?_;apply iU h <;> intro h
  ·refine iL h fun h => ?_;apply iU h <;> intro h
   ·refine iL h fun h => ?_;refine iR h fun h => ?_;refine iR h fun h => ?_;exact iB h
   refine iR h fun h => ?_;refine iR h fun h => ?_;exact iB h
  apply iU h <;> intro h
  ·refine iL h fun h => ?_;refine iR h fun h => ?_;refine iR h fun h => ?_;exact iB h
  refine iR h fun h => ?_;refine iR h fun h => ?_;exact iB h
 apply iU h <;> intro h
 ·refine cP h Q02 p2 fun v29 h => ?_;refine ifF hc1 ?_;refine iR h fun h => ?_;exact iB h
 refine ifF hc1 ?_;refine iR h fun h => ?_;refine iR h fun h => ?_;exact iB h
def Q0m (_N : Nat) (version : Int) : Option (Bool) :=
 cond (Q3 .eql version 4)
 (some true)
 (some (Q3 .eql version 5))
theorem Qbc {N} {version} {r} (h : Q0m N version = some r) : pU 191 [.int .i64 version] (.bool r) := by
 refine Q2 Z97 ?_;unfold Q0m at h;rw [cX] at h;exact iB h
def Q08 (N : Nat) (version : Int) (p : Qa) : Option (Int) :=
 (Q0m N version).bind fun v1 =>
 cond (!v1)
 (some 2)
 ((Q1l N p.Kind).bind fun v4 =>
 cond (!v4)
 (some 2)
 ((Gz N p).bind fun v7 =>
 cond (!v7)
 (some 2)
 ((Ge N version p).bind fun v10 =>
 cond (!v10)
 (some 2)
 ((Qz N p.Client).bind fun v13 =>
 cond (!v13)
 (some 6)
 ((Qz N p.User).bind fun v16 =>
 cond (!v16)
 (some 6)
 (cond p.HasWill
 ((Z5 N p.Will.Topic).bind fun v20 =>
 cond (!v20)
 (some 10)
 (cond (Q3 .gtr (p.Will.Payload.length : Int) 65535)
 (some 2)
 (cond (Q3 .gtr (p.Pass.length : Int) 65535)
 (some 2)
 ((Zl N p.Kind p.Props).bind fun v25 =>
 cond (Q3 .neq v25 0)
 (some v25)
 ((Zl N 16 p.Will.Props).bind fun v28 =>
 some v28)))))
 (cond (Q3 .gtr (p.Will.Payload.length : Int) 65535)
 (some 2)
 (cond (Q3 .gtr (p.Pass.length : Int) 65535)
 (some 2)
 ((Zl N p.Kind p.Props).bind fun v32 =>
 cond (Q3 .neq v32 0)
 (some v32)
 ((Zl N 16 p.Will.Props).bind fun v35 =>
 some v35))))))))))
theorem Qbm {N} {version} {p} {r} (h : Q08 N version p = some r) : pU 186 [.int .i64 version, .agg (Qa.cells p)] (.int .i64 r) := by
 refine Q2 Z76 ?_;unfold Q08 at h;rw [cX] at h;refine cP h Qbc p1 fun v1 h => ?_;refine iL h fun h => ?_;refine cP h Qcp p1 fun v4 h => ?_;refine iL h fun h => ?_;refine cP h Qc1 (.cons (Frz.agg' (Xt (f2_ (f1_ (.cons (.p _) p5))))) .nil) fun v7 h => ?_;refine iL h fun h => ?_;refine cP h Qal (.cons (.p _) (.cons (Frz.agg' (Xt (f2_ (f1_ (.cons (.p _) p5))))) .nil)) fun v10 h => ?_;refine iL h fun h => ?_;refine cP h Zn p1 fun v13 h => ?_;refine iL h fun h => ?_;refine cP h Zn p1 fun v16 h => ?_;refine iL h fun h => ?_;apply iU h <;> intro h
 ·refine cP h Yi p1 fun v20 h => ?_;refine iL h fun h => ?_;refine iL h fun h => ?_;refine iL h fun h => ?_;refine cP h Yg p2 fun v25 h => ?_;refine iL h fun h => ?_;refine cP h Yg p2 fun v28 h => ?_;cases h; exact (.p _)
 refine iL h fun h => ?_;refine iL h fun h => ?_;refine cP h Yg p2 fun v32 h => ?_;refine iL h fun h => ?_;refine cP h Yg p2 fun v35 h => ?_;cases h; exact (.p _)
def Gf (N : Nat) (version : Int) (kind : Int) (l : List Ql) : Option (List UInt8) :=
 cond (Q3 .eql version 4)
 (some [])
 ((Wt N kind l).bind fun v2 =>
 some v2.1)
theorem Q6w {N} {version} {kind} {l} {r} (h : Gf N version kind l = some r) : pU 187 [.int .i64 version, .int .i64 kind, .slice 4 (Q8 Ql.cells l)] (.str r) := by
 refine Q2 Zbs ?_;unfold Gf at h;rw [cX] at h;refine iL h fun h => ?_;refine cP h Vl p2 fun v2 h => ?_;cases h; exact (.p _)
def Xh (N : Nat) (parts : List (List UInt8)) : Option (List UInt8) :=
 (Q9z N parts []).bind fun v1 =>
 some v1
theorem Xb {N} {parts} {r} (h : Xh N parts = some r) : pU 188 [.slice 1 (Q8 cS parts)] (.str r) := by
 refine Q2 Zgi ?_;unfold Xh at h;refine cP h Qd8 p2 fun v1 h => ?_;cases h; exact (.p _)
def Yb (N : Nat) (p : Qa) : Nat → Int → Int → Option (Int)
 | 0, _, _ => none
 | n + 1, out9, s10 =>
  cond (Q3 .lss s10 5)
  ((idx ([(⟨p.Clean, 2⟩ : Q4t), (⟨p.HasWill, 4⟩ : Q4t), (⟨p.Will.Retain, 32⟩ : Q4t), (⟨p.HasPass, 64⟩ : Q4t), (⟨p.HasUser, 128⟩ : Q4t)] : List Q4t) s10).bind fun y12 =>
  cond y12.is
  (Yb N p n (orI .i64 out9 y12.bit) (IntKind.wrap .i64 (s10 + 1)))
  (Yb N p n out9 (IntKind.wrap .i64 (s10 + 1))))
  (some out9)
def Q0s (N : Nat) (p : Qa) : Option (Int) :=
 cond (Q3 .neq p.Kind 1)
 (some 0)
 (Yb N p N (Q27 .i64 (Gi .i64 p.Will.QoS 3) 3) 0)
theorem Qbq {N} {p} {r} (h : Q0s N p = some r) : pU 189 [.agg (Qa.cells p)] (.int .i64 r) := by
 refine Q2 Za8 ?_;unfold Q0s at h;rw [cX] at h;refine iL h fun h => ?_;refine lpH (τ := Int × Int) (fun ⟨out9, s10⟩ => (a2 (.any :: iI out9 :: a16 (a8 (a2 (.slice 2 1 0 5 :: iI 5 :: iI s10 :: a8 (a2 (.any :: [])))))) : List AV)) (fun n0 ⟨out9, s10⟩ => Yb N p n0 out9 s10) ((Q27 .i64 (Gi .i64 p.Will.QoS 3) 3), 0) h fun n0 ⟨out9, s10⟩ h => ?_
 first | rw [Yb] at h | simp only [Yb] at h
 rw [cX] at h;refine iR h fun h => ?_;obtain ⟨y12, hy13, h⟩ := Js h;refine Q0k (Q4k hy13 sd) ?_
 refine Q76 (c := Q4t.cells) (e := 2) (fun _ => rfl) hy13 (off := 0) (by decide) (by first | omega | (simp only [Gi, orI, Qjs, Jr, Q27, Q6l]; omega)) ?_
 apply iU h <;> intro h
 ·show Exists _;exact ⟨(n0, (orI .i64 out9 y12.bit), (IntKind.wrap .i64 (s10 + 1))), h, Le _, (fun i => i), Zc⟩
 show Exists _;exact ⟨(n0, out9, (IntKind.wrap .i64 (s10 + 1))), h, Le _, (fun i => i), Zc⟩
def Xd (N : Nat) (s_0 : List UInt8) : Option (List UInt8) :=
 (Uy N s_0).bind fun v1 =>
 some v1.1
theorem Xg {N} {s_0} {r} (h : Xd N s_0 = some r) : pU 190 [.str s_0] (.str r) := by
 refine Q2 Zfj ?_;unfold Xd at h;refine cP h Q20 p1 fun v1 h => ?_;cases h; exact (.p _)
def Q1q (N : Nat) (version : Int) (p : Qa) : Option ((List UInt8) × Int) :=
 (Q08 N version p).bind fun v1 =>
 cond (Q3 .neq v1 0)
 (some ([], v1))
 ((Gf N version p.Kind p.Props).bind fun v4 =>
 cond (Q3 .eql p.Kind 2)
 (cond p.Session
 ((Qk N (IntKind.wrap .u64 p.Code) 1).bind fun v8 =>
 (Xh N [[1], v8, v4]).bind fun v10 =>
 some (v10, 0))
 ((Qk N (IntKind.wrap .u64 p.Code) 1).bind fun v12 =>
 (Xh N [[0], v12, v4]).bind fun v14 =>
 some (v14, 0)))
 ((Qk N (IntKind.wrap .u64 version) 1).bind fun v16 =>
 (Q0s N p).bind fun v18 =>
 (Qk N (IntKind.wrap .u64 v18) 1).bind fun v20 =>
 (Qk N (IntKind.wrap .u64 p.KeepAlive) 2).bind fun v22 =>
 (Xd N p.Client).bind fun v24 =>
 (Xh N [[0, 4, 77, 81, 84, 84], v16, v20, v22, v4, v24]).bind fun v26 =>
 cond p.HasWill
 ((Gf N version 16 p.Will.Props).bind fun v29 =>
 (Xd N p.Will.Topic).bind fun v31 =>
 (Xd N p.Will.Payload).bind fun v33 =>
 (Xh N [v26, v29, v31, v33]).bind fun v35 =>
 cond p.HasUser
 ((Xd N p.User).bind fun v38 =>
 (Xh N [v35, v38]).bind fun v40 =>
 cond p.HasPass
 ((Xd N p.Pass).bind fun v43 =>
 (Xh N [v40, v43]).bind fun v45 =>
 some (v45, 0))
 (some (v40, 0)))
 (cond p.HasPass
 ((Xd N p.Pass).bind fun v48 =>
 (Xh N [v35, v48]).bind fun v50 =>
 some (v50, 0))
 (some (v35, 0))))
 (cond p.HasUser
 ((Xd N p.User).bind fun v53 =>
 (Xh N [v26, v53]).bind fun v55 =>
 cond p.HasPass
 ((Xd N p.Pass).bind fun v58 =>
 (Xh N [v55, v58]).bind fun v60 =>
 some (v60, 0))
 (some (v55, 0)))
 (cond p.HasPass
 ((Xd N p.Pass).bind fun v63 =>
 (Xh N [v26, v63]).bind fun v65 =>
 some (v65, 0))
 (some (v26, 0))))))
theorem Qdd {N} {version} {p} {r} (h : Q1q N version p = some r) : pU 157 [.int .i64 version, .agg (Qa.cells p)] (.tuple [.str r.1, .int .i64 r.2]) := by
 refine Q2 Zgd ?_;unfold Q1q at h;rw [cX] at h;refine cP h Qbm (.cons (.p _) (.cons (Frz.agg' (Xt (f2_ (f1_ (.cons (.p _) p5))))) .nil)) fun v1 h => ?_;refine iL2 h fun h => ?_;refine cP h Q6w p3 fun v4 h => ?_;apply iU h <;> intro h
 ·apply iU h <;> intro h
  ·refine cP h Qf p2 fun v8 h => ?_;refine cK h Xb (.cons (frz_own (c := cS) (l := ([[1], v8, v4] : List (List UInt8))) (fun _ => rfl) rfl trivial sd) .nil) fun v10 h => ?_;obtain rfl := Qb h; exact u2
  refine cP h Qf p2 fun v12 h => ?_;refine cK h Xb (.cons (frz_own (c := cS) (l := ([[0], v12, v4] : List (List UInt8))) (fun _ => rfl) rfl trivial sd) .nil) fun v14 h => ?_;obtain rfl := Qb h; exact u2
 refine Qc ?_;refine cD h Qf p2 fun v16 h => ?_;refine cD h Qbq (.cons (Frz.agg' (Xt (f2_ (f1_ (.cons (.p _) p5))))) .nil) fun v18 h => ?_;refine cD h Qf p2 fun v20 h => ?_;refine cD h Qf p2 fun v22 h => ?_;refine cD h Xg p1 fun v24 h => ?_;refine dL h Xb [1] (.cons (frz_own (c := cS) (l := ([[0, 4, 77, 81, 84, 84], v16, v20, v22, v4, v24] : List (List UInt8))) (fun _ => rfl) rfl (by simp) sd) .nil) fun v26 h => ?_;apply iU h <;> intro h
 ·refine Qc ?_;refine cD h Q6w p3 fun v29 h => ?_;refine cD h Xg p1 fun v31 h => ?_;refine cD h Xg p1 fun v33 h => ?_;refine dL h Xb [2] (.cons (frz_own (c := cS) (l := ([v26, v29, v31, v33] : List (List UInt8))) (fun _ => rfl) rfl (by simp) sd) .nil) fun v35 h => ?_;apply iU h <;> intro h
  ·refine cP h Xg p1 fun v38 h => ?_;refine cK h Xb (.cons (frz_own (c := cS) (l := ([v35, v38] : List (List UInt8))) (fun _ => rfl) rfl trivial sd) .nil) fun v40 h => ?_;refine iR2 h fun h => ?_;refine cP h Xg p1 fun v43 h => ?_;refine cK h Xb (.cons (frz_own (c := cS) (l := ([v40, v43] : List (List UInt8))) (fun _ => rfl) rfl trivial sd) .nil) fun v45 h => ?_;obtain rfl := Qb h; exact u2
  refine iR2 h fun h => ?_;refine cP h Xg p1 fun v48 h => ?_;refine cK h Xb (.cons (frz_own (c := cS) (l := ([v35, v48] : List (List UInt8))) (fun _ => rfl) rfl trivial sd) .nil) fun v50 h => ?_;obtain rfl := Qb h; exact u2
 apply iU h <;> intro h
 ·refine cP h Xg p1 fun v53 h => ?_;refine cK h Xb (.cons (frz_own (c := cS) (l := ([v26, v53] : List (List UInt8))) (fun _ => rfl) rfl trivial sd) .nil) fun v55 h => ?_;refine iR2 h fun h => ?_;refine cP h Xg p1 fun v58 h => ?_;refine cK h Xb (.cons (frz_own (c := cS) (l := ([v55, v58] : List (List UInt8))) (fun _ => rfl) rfl trivial sd) .nil) fun v60 h => ?_;obtain rfl := Qb h; exact u2
 refine iR2 h fun h => ?_;refine cP h Xg p1 fun v63 h => ?_;refine cK h Xb (.cons (frz_own (c := cS) (l := ([v26, v63] : List (List UInt8))) (fun _ => rfl) rfl trivial sd) .nil) fun v65 h => ?_;obtain rfl := Qb h; exact u2
def Wr (N : Nat) (d : Z8) : Option ((List UInt8) × Int) :=
 (Q1q N d.version d.p).bind fun v1 =>
 some (v1.1, v1.2)
theorem Q2l {N} {d} {r} (h : Wr N d = some r) : pU 122 [.agg (Z8.cells d)] (.tuple [.str r.1, .int .i64 r.2]) := by
 refine Q2 Z5j ?_;unfold Wr at h;refine cP h Qdd (.cons (.p _) (.cons (Frz.agg' (Xt (f2_ (f1_ (.cons (.p _) p5))))) .nil)) fun v1 h => ?_;obtain rfl := Qb h; exact u2
def Q53 (_N : Nat) (version : Int) (kind : Int) : Option (Bool) :=
 cond (Q3 .eql version 4)
 (cond (Q3 .geq kind 4)
 (some (Q3 .leq kind 7))
 (some false))
 (cond (Q3 .eql version 5)
 (cond (Q3 .geq kind 4)
 (some (Q3 .leq kind 7))
 (some false))
 (some false))
theorem Qha {N} {version} {kind} {r} (h : Q53 N version kind = some r) : pU 200 [.int .i64 version, .int .i64 kind] (.bool r) := by
 refine Q2 Zcx ?_;unfold Q53 at h;rw [cX] at h;apply iU h <;> intro h
 ·exact iB h
 refine iR h fun h => ?_;exact iB h
def Q5m (N : Nat) (version : Int) (p : Qa) : Option (Int) :=
 (Q53 N version p.Kind).bind fun v1 =>
 cond (!v1)
 (some 2)
 (cond (Q3 .leq p.ID 0)
 (some 2)
 (cond (Q3 .geq p.ID 65536)
 (some 2)
 ((Ju N p.Kind p.Code).bind fun v6 =>
 cond (!v6)
 (some 2)
 (cond (Q3 .eql version 4)
 (cond (Q3 .neq p.Code 0)
 (some 2)
 (cond (Q3 .neq ((Q8 Ql.cells p.Props).length : Int) 0)
 (some 2)
 ((Za N p (⟨p.Kind, false, false, 0, p.ID, [], [], false, 0, [], false, [], false, [], false, (⟨[], [], 0, false, []⟩ : Q10), false, p.Code, [], [], p.Props⟩ : Qa)).bind fun v12 =>
 cond (!v12)
 (some 2)
 ((Zl N p.Kind p.Props).bind fun v15 =>
 some v15))))
 ((Za N p (⟨p.Kind, false, false, 0, p.ID, [], [], false, 0, [], false, [], false, [], false, (⟨[], [], 0, false, []⟩ : Q10), false, p.Code, [], [], p.Props⟩ : Qa)).bind fun v17 =>
 cond (!v17)
 (some 2)
 ((Zl N p.Kind p.Props).bind fun v20 =>
 some v20))))))
theorem Qh8 {N} {version} {p} {r} (h : Q5m N version p = some r) : pU 199 [.int .i64 version, .agg (Qa.cells p)] (.int .i64 r) := by
 refine Q2 Zc1 ?_;unfold Q5m at h;rw [cX] at h;refine cP h Qha p2 fun v1 h => ?_;refine iL h fun h => ?_;refine iL h fun h => ?_;refine iL h fun h => ?_;refine cP h Q02 p2 fun v6 h => ?_;refine iL h fun h => ?_;apply iU h <;> intro h
 ·refine iL h fun h => ?_;refine iL h fun h => ?_;refine cP h Qs (.cons (Frz.agg' (Xt (f2_ (f1_ (.cons (.p _) p5))))) (.cons (Frz.agg' (Xt (f2_ (f1_ (.cons (.nil _) (f2_ (.cons (.nil _) (.cons (.nil _) p1)))))))) .nil)) fun v12 h => ?_;refine iL h fun h => ?_;refine cP h Yg p2 fun v15 h => ?_;cases h; exact (.p _)
 refine cP h Qs (.cons (Frz.agg' (Xt (f2_ (f1_ (.cons (.p _) p5))))) (.cons (Frz.agg' (Xt (f2_ (f1_ (.cons (.nil _) (f2_ (.cons (.nil _) (.cons (.nil _) p1)))))))) .nil)) fun v17 h => ?_;refine iL h fun h => ?_;refine cP h Yg p2 fun v20 h => ?_;cases h; exact (.p _)
def Q6m (N : Nat) (version : Int) (p : Qa) : Option ((List UInt8) × Int) :=
 (Q5m N version p).bind fun v1 =>
 cond (Q3 .neq v1 0)
 (some ([], v1))
 ((Qk N (IntKind.wrap .u64 p.ID) 2).bind fun v4 =>
 cond (Q3 .neq p.Code 0)
 ((Qk N (IntKind.wrap .u64 p.Code) 1).bind fun v7 =>
 cond (Nat.ble (v4.length + v7.length) 4611686018427387904) (cond (Q3 .neq ((Q8 Ql.cells p.Props).length : Int) 0)
 ((Wt N p.Kind p.Props).bind fun v11 =>
 cond (Nat.ble ((v4 ++ v7).length + v11.1.length) 4611686018427387904) (some (((v4 ++ v7) ++ v11.1), 0)) none)
 (some ((v4 ++ v7), 0))) none)
 (cond (Q3 .neq ((Q8 Ql.cells p.Props).length : Int) 0)
 ((Qk N (IntKind.wrap .u64 p.Code) 1).bind fun v15 =>
 cond (Nat.ble (v4.length + v15.length) 4611686018427387904) ((Wt N p.Kind p.Props).bind fun v18 =>
 cond (Nat.ble ((v4 ++ v15).length + v18.1.length) 4611686018427387904) (some (((v4 ++ v15) ++ v18.1), 0)) none) none)
 (some (v4, 0))))
theorem Qit {N} {version} {p} {r} (h : Q6m N version p = some r) : pU 159 [.int .i64 version, .agg (Qa.cells p)] (.tuple [.str r.1, .int .i64 r.2]) := by
 refine Q2 Z8y ?_;unfold Q6m at h;rw [cX] at h;refine cP h Qh8 (.cons (.p _) (.cons (Frz.agg' (Xt (f2_ (f1_ (.cons (.p _) p5))))) .nil)) fun v1 h => ?_;refine iL2 h fun h => ?_;refine cP h Qf p2 fun v4 h => ?_;apply iU h <;> intro h
 ·refine cP h Qf p2 fun v7 h => ?_;refine kU h fun h => ?_;refine iR2 h fun h => ?_;refine cP h Vl p2 fun v11 h => ?_;refine kU h fun h => ?_;obtain rfl := Qb h; exact u2
 refine ifO h (fun hc14 h => ?_) (fun hc14 h => ?_)
 ·refine cP h Qf p2 fun v15 h => ?_;refine kU h fun h => ?_;refine ifT hc14 ?_;refine cP h Vl p2 fun v18 h => ?_;refine kU h fun h => ?_;obtain rfl := Qb h; exact u2
 refine ifF hc14 ?_;obtain rfl := Qb h; exact u2
def Wu (N : Nat) (d : Z8) : Option ((List UInt8) × Int) :=
 (Q6m N d.version d.p).bind fun v1 =>
 some (v1.1, v1.2)
theorem G4 {N} {d} {r} (h : Wu N d = some r) : pU 124 [.agg (Z8.cells d)] (.tuple [.str r.1, .int .i64 r.2]) := by
 refine Q2 Z9j ?_;unfold Wu at h;refine cP h Qit (.cons (.p _) (.cons (Frz.agg' (Xt (f2_ (f1_ (.cons (.p _) p5))))) .nil)) fun v1 h => ?_;obtain rfl := Qb h; exact u2
def Vb (_N : Nat) (kind : Int) : Option (Bool) :=
 cond (Q3 .eql kind 8)
 (some true)
 (some (Q3 .eql kind 10))
theorem Q3f {N} {kind} {r} (h : Vb N kind = some r) : pU 250 [.int .i64 kind] (.bool r) := by
 refine Q2 Z7j ?_;unfold Vb at h;rw [cX] at h;exact iB h
def Vv (_N : Nat) (version : Int) (kind : Int) : Option (Bool) :=
 cond (Q3 .eql kind 11)
 (some (Q3 .eql version 4))
 (some false)
theorem Q42 {N} {version} {kind} {r} (h : Vv N version kind = some r) : pU 294 [.int .i64 version, .int .i64 kind] (.bool r) := by
 refine Q2 Zec ?_;unfold Vv at h;rw [cX] at h;exact iB h
def J5 (N : Nat) (version : Int) (p : Qa) : Option (Bool) :=
 cond (Q3 .lss p.ID 1)
 (some false)
 (cond (Q3 .gtr p.ID 65535)
 (some false)
 (cond (Q3 .eql version 4)
 (cond (Q3 .gtr ((Q8 Ql.cells p.Props).length : Int) 0)
 (some false)
 ((Vb N p.Kind).bind fun v5 =>
 cond v5
 (cond (Q3 .gtr ((Q8 Qn.cells p.Filters).length : Int) 0)
 ((Za N p (⟨p.Kind, false, false, 0, p.ID, [], [], false, 0, [], false, [], false, [], false, (⟨[], [], 0, false, []⟩ : Q10), false, 0, [], p.Filters, p.Props⟩ : Qa)).bind fun v9 =>
 some v9)
 (some false))
 ((Vv N version p.Kind).bind fun v11 =>
 cond v11
 ((Za N p (⟨p.Kind, false, false, 0, p.ID, [], [], false, 0, [], false, [], false, [], false, (⟨[], [], 0, false, []⟩ : Q10), false, 0, [], [], p.Props⟩ : Qa)).bind fun v14 =>
 some v14)
 (cond (Q3 .gtr ((Q8 (cI .i64) p.Codes).length : Int) 0)
 ((Za N p (⟨p.Kind, false, false, 0, p.ID, [], [], false, 0, [], false, [], false, [], false, (⟨[], [], 0, false, []⟩ : Q10), false, 0, p.Codes, [], p.Props⟩ : Qa)).bind fun v17 =>
 some v17)
 (some false)))))
 ((Vb N p.Kind).bind fun v19 =>
 cond v19
 (cond (Q3 .gtr ((Q8 Qn.cells p.Filters).length : Int) 0)
 ((Za N p (⟨p.Kind, false, false, 0, p.ID, [], [], false, 0, [], false, [], false, [], false, (⟨[], [], 0, false, []⟩ : Q10), false, 0, [], p.Filters, p.Props⟩ : Qa)).bind fun v23 =>
 some v23)
 (some false))
 ((Vv N version p.Kind).bind fun v25 =>
 cond v25
 ((Za N p (⟨p.Kind, false, false, 0, p.ID, [], [], false, 0, [], false, [], false, [], false, (⟨[], [], 0, false, []⟩ : Q10), false, 0, [], [], p.Props⟩ : Qa)).bind fun v28 =>
 some v28)
 (cond (Q3 .gtr ((Q8 (cI .i64) p.Codes).length : Int) 0)
 ((Za N p (⟨p.Kind, false, false, 0, p.ID, [], [], false, 0, [], false, [], false, [], false, (⟨[], [], 0, false, []⟩ : Q10), false, 0, p.Codes, [], p.Props⟩ : Qa)).bind fun v31 =>
 some v31)
 (some false))))))
theorem Q8o {N} {version} {p} {r} (h : J5 N version p = some r) : pU 244 [.int .i64 version, .agg (Qa.cells p)] (.bool r) := by
 refine Q2 Zfq ?_;unfold J5 at h;rw [cX] at h;refine iL h fun h => ?_;refine iL h fun h => ?_;apply iU h <;> intro h
 ·refine iL h fun h => ?_;refine cP h Q3f p1 fun v5 h => ?_;apply iU h <;> intro h
  ·refine iR h fun h => ?_;refine cP h Qs (.cons (Frz.agg' (Xt (f2_ (f1_ (.cons (.p _) p5))))) (.cons (Frz.agg' (Xt (f2_ (f1_ (.cons (.nil _) (f2_ (.cons (.nil _) p2))))))) .nil)) fun v9 h => ?_;cases h; exact (.p _)
  refine cP h Q42 p2 fun v11 h => ?_;apply iU h <;> intro h
  ·refine cP h Qs (.cons (Frz.agg' (Xt (f2_ (f1_ (.cons (.p _) p5))))) (.cons (Frz.agg' (Xt (f2_ (f1_ (.cons (.nil _) (f2_ (.cons (.nil _) (.cons (.nil _) p1)))))))) .nil)) fun v14 h => ?_;cases h; exact (.p _)
  refine iR h fun h => ?_;refine cP h Qs (.cons (Frz.agg' (Xt (f2_ (f1_ (.cons (.p _) p5))))) (.cons (Frz.agg' (Xt (f2_ (f1_ (.cons (.nil _) (f2_ (f1_ (.cons (.nil _) p1)))))))) .nil)) fun v17 h => ?_;cases h; exact (.p _)
 refine cP h Q3f p1 fun v19 h => ?_;apply iU h <;> intro h
 ·refine iR h fun h => ?_;refine cP h Qs (.cons (Frz.agg' (Xt (f2_ (f1_ (.cons (.p _) p5))))) (.cons (Frz.agg' (Xt (f2_ (f1_ (.cons (.nil _) (f2_ (.cons (.nil _) p2))))))) .nil)) fun v23 h => ?_;cases h; exact (.p _)
 refine cP h Q42 p2 fun v25 h => ?_;apply iU h <;> intro h
 ·refine cP h Qs (.cons (Frz.agg' (Xt (f2_ (f1_ (.cons (.p _) p5))))) (.cons (Frz.agg' (Xt (f2_ (f1_ (.cons (.nil _) (f2_ (.cons (.nil _) (.cons (.nil _) p1)))))))) .nil)) fun v28 h => ?_;cases h; exact (.p _)
 refine iR h fun h => ?_;refine cP h Qs (.cons (Frz.agg' (Xt (f2_ (f1_ (.cons (.p _) p5))))) (.cons (Frz.agg' (Xt (f2_ (f1_ (.cons (.nil _) (f2_ (f1_ (.cons (.nil _) p1)))))))) .nil)) fun v31 h => ?_;cases h; exact (.p _)
def X4 (_N : Nat) (s_0 : List UInt8) (prefix_1 : List UInt8) : Option (Bool) :=
 cond (Q3 .geq (s_0.length : Int) (prefix_1.length : Int))
 (cond (Nat.ble 0 prefix_1.length && Nat.ble prefix_1.length s_0.length) (some (Q4o .eql ((s_0.take prefix_1.length).drop 0) prefix_1)) none)
 (some false)
theorem Q23 {N} {s_0} {prefix_1} {r} (h : X4 N s_0 prefix_1 = some r) : pU 352 [.str s_0, .str prefix_1] (.bool r) := by
 refine Q2 Z90 ?_;unfold X4 at h;rw [cX, cY] at h;refine iR h fun h => ?_;refine kU h fun h => ?_;cases h; exact (.p _)
def X3 (N : Nat) (s_0 : List UInt8) (prefix_1 : List UInt8) : Option ((List UInt8) × Bool) :=
 (X4 N s_0 prefix_1).bind fun v1 =>
 cond (!v1)
 (some (s_0, false))
 (cond (Nat.ble prefix_1.length s_0.length && Nat.ble s_0.length s_0.length) (some (((s_0.take s_0.length).drop prefix_1.length), true)) none)
theorem Q22 {N} {s_0} {prefix_1} {r} (h : X3 N s_0 prefix_1 = some r) : pU 342 [.str s_0, .str prefix_1] (.tuple [.str r.1, .bool r.2]) := by
 refine Q2 Z68 ?_;unfold X3 at h;refine cP h Q23 p2 fun v1 h => ?_;refine iL2 h fun h => ?_;refine kU h fun h => ?_;obtain rfl := Qb h; exact u2
def Uk (N : Nat) (s_0 : List UInt8) (prefix_1 : List UInt8) : Option ((List UInt8) × Bool) :=
 (X3 N s_0 prefix_1).bind fun v1 =>
 some (v1.1, v1.2)
theorem Q7y {N} {s_0} {prefix_1} {r} (h : Uk N s_0 prefix_1 = some r) : pU 323 [.str s_0, .str prefix_1] (.tuple [.str r.1, .bool r.2]) := by
 refine Q2 Z5d ?_;unfold Uk at h;refine cP h Q22 p2 fun v1 h => ?_;obtain rfl := Qb h; exact u2
end
end
end Go.Av
