/- Part of the proof of FromsnApart: for every input the law returns true; no condition. -/
import Derived.Test.YtjhombimklaciaaGreatDoorLiftF1
open Go.IntKind (wrap)
namespace Go.Av
noncomputable section
open Go.Proofs
set_option maxRecDepth 100000
set_option maxHeartbeats 4000000
attribute [local irreducible] Xt Qm Q8b Q6k Qpa Qqk Qfx
section
def Jh (N : Nat) (m : Um) : Option Int :=
 (U5 N m.Type').bind fun v1 =>
 cond (!v1)
 (some 8)
 ((Q15 N m.Type' m.Flags).bind fun v4 =>
 cond (!v4)
 (some 7)
 ((Gt N m.Type').bind fun v7 =>
 cond v7
 (cond (Jx .eql m.Name [])
 (cond (!(((m.Flags.Dup : Bool) == false) && (((m.Flags.QoS : Int) == 0) && (((m.Flags.Retain : Bool) == false) && (((m.Flags.Will : Bool) == false) && (((m.Flags.Clean : Bool) == false) && (((m.Flags.Type' : Int) == 0) && true)))))))
 (some 7)
 ((Zw N (⟨2, m, [], false⟩ : Q3)).bind fun v12 =>
 cond v12.2.bad
 (some 2)
 (cond (!(((v12.2.m.Type' : Int) == m.Type') && (((v12.2.m.Flags.Dup : Bool) == m.Flags.Dup) && (((v12.2.m.Flags.QoS : Int) == m.Flags.QoS) && (((v12.2.m.Flags.Retain : Bool) == m.Flags.Retain) && (((v12.2.m.Flags.Will : Bool) == m.Flags.Will) && (((v12.2.m.Flags.Clean : Bool) == m.Flags.Clean) && (((v12.2.m.Flags.Type' : Int) == m.Flags.Type') && (((v12.2.m.Gateway : Int) == 0) && (((v12.2.m.Radius : Int) == 0) && (((v12.2.m.Time : Int) == 0) && (((v12.2.m.Timed : Bool) == false) && (((v12.2.m.TopicID : Int) == 0) && (((v12.2.m.MsgID : Int) == 0) && (((v12.2.m.Code : Int) == 0) && (((v12.2.m.Name : List UInt8) == []) && (((v12.2.m.Data : List UInt8) == []) && true)))))))))))))))))
 (some 2)
 ((Vk N m).bind fun v16 =>
 cond (!v16)
 (some 2)
 ((Wc N m).bind fun v19 =>
 cond (Q7 .neq v19 0)
 (some v19)
 ((Uf N m).bind fun v22 =>
 cond (Q7 .neq v22 0)
 (some v22)
 ((Vh N m).bind fun v25 =>
 (Xn N m.Type' (v25.length : Int)).bind fun v27 =>
 some v27.2)))))))
 ((Zw N (⟨2, m, [], false⟩ : Q3)).bind fun v29 =>
 cond v29.2.bad
 (some 2)
 (cond (!(((v29.2.m.Type' : Int) == m.Type') && (((v29.2.m.Flags.Dup : Bool) == m.Flags.Dup) && (((v29.2.m.Flags.QoS : Int) == m.Flags.QoS) && (((v29.2.m.Flags.Retain : Bool) == m.Flags.Retain) && (((v29.2.m.Flags.Will : Bool) == m.Flags.Will) && (((v29.2.m.Flags.Clean : Bool) == m.Flags.Clean) && (((v29.2.m.Flags.Type' : Int) == m.Flags.Type') && (((v29.2.m.Gateway : Int) == 0) && (((v29.2.m.Radius : Int) == 0) && (((v29.2.m.Time : Int) == 0) && (((v29.2.m.Timed : Bool) == false) && (((v29.2.m.TopicID : Int) == 0) && (((v29.2.m.MsgID : Int) == 0) && (((v29.2.m.Code : Int) == 0) && (((v29.2.m.Name : List UInt8) == []) && (((v29.2.m.Data : List UInt8) == []) && true)))))))))))))))))
 (some 2)
 ((Vk N m).bind fun v33 =>
 cond (!v33)
 (some 2)
 ((Wc N m).bind fun v36 =>
 cond (Q7 .neq v36 0)
 (some v36)
 ((Uf N m).bind fun v39 =>
 cond (Q7 .neq v39 0)
 (some v39)
 ((Vh N m).bind fun v42 =>
 (Xn N m.Type' (v42.length : Int)).bind fun v44 =>
 some v44.2)))))))
 ((Zw N (⟨2, m, [], false⟩ : Q3)).bind fun v46 =>
 cond v46.2.bad
 (some 2)
 (cond (!(((v46.2.m.Type' : Int) == m.Type') && (((v46.2.m.Flags.Dup : Bool) == m.Flags.Dup) && (((v46.2.m.Flags.QoS : Int) == m.Flags.QoS) && (((v46.2.m.Flags.Retain : Bool) == m.Flags.Retain) && (((v46.2.m.Flags.Will : Bool) == m.Flags.Will) && (((v46.2.m.Flags.Clean : Bool) == m.Flags.Clean) && (((v46.2.m.Flags.Type' : Int) == m.Flags.Type') && (((v46.2.m.Gateway : Int) == 0) && (((v46.2.m.Radius : Int) == 0) && (((v46.2.m.Time : Int) == 0) && (((v46.2.m.Timed : Bool) == false) && (((v46.2.m.TopicID : Int) == 0) && (((v46.2.m.MsgID : Int) == 0) && (((v46.2.m.Code : Int) == 0) && (((v46.2.m.Name : List UInt8) == []) && (((v46.2.m.Data : List UInt8) == []) && true)))))))))))))))))
 (some 2)
 ((Vk N m).bind fun v50 =>
 cond (!v50)
 (some 2)
 ((Wc N m).bind fun v53 =>
 cond (Q7 .neq v53 0)
 (some v53)
 ((Uf N m).bind fun v56 =>
 cond (Q7 .neq v56 0)
 (some v56)
 ((Vh N m).bind fun v59 =>
 (Xn N m.Type' (v59.length : Int)).bind fun v61 =>
 some v61.2))))))))
theorem Q7q {N} {m} {r} (h : Jh N m = some r) : pU 61 [.agg (Um.cells m)] (.int .i64 r) := by
 refine Q6 k61 ?_;unfold Jh at h;rw [cX, cY] at h;refine cP h Q5s p1 fun v1 h => ?_;refine iL h fun h => ?_;refine cP h Q8k (.cons (.p _) (.cons (Frz.agg' (.cons (.p _) p5)) .nil)) fun v4 h => ?_;refine iL h fun h => ?_;refine cP h Q9f p1 fun v7 h => ?_;apply iU h <;> intro h
 ·apply iU h <;> intro h
  ·refine iL h fun h => ?_;refine cG h Xv fun v12 h => ?_;refine ⟨rho [1, 3], (.cells (Qcu m ([])) :: .cells (V5 v12.2 2) :: .cells (Zz (cI .u8) v12.2.out) :: []), .tuple [], ⟨(rE rfl <| rN), (hC rfl (rE rfl <| rE rfl <| rE rfl <| rE rfl <| rE rfl <| rE rfl <| rE rfl <| rE rfl <| rE rfl <| rE rfl <| rE rfl <| rE rfl <| rE rfl <| rE rfl <| rE rfl <| rE rfl <| rE rfl <| rE rfl <| rS <| rE rfl <| rN) <| hV lb <| hN), rfl, rfl, (roE rfl <| roE (Q0e _ _ _) <| roN), rfl, (fK rfl rfl <| fR 0 rfl rfl rfl rfl <| fO 2 rfl rfl rfl <| fN), rfl⟩, ?_⟩;refine iL h fun h => ?_;refine iL h fun h => ?_;refine cP h Q01 (.cons (Frz.agg' (f8_ (f2_ (.cons (.p _) p5)))) .nil) fun v16 h => ?_;refine iL h fun h => ?_;refine cP h Jo (.cons (Frz.agg' (f8_ (f2_ (.cons (.p _) p5)))) .nil) fun v19 h => ?_;refine iL h fun h => ?_;refine cP h Q0y (.cons (Frz.agg' (f8_ (f2_ (.cons (.p _) p5)))) .nil) fun v22 h => ?_;refine iL h fun h => ?_;refine Qi ?_;refine cD h Js (.cons (Frz.agg' (f8_ (f2_ (.cons (.p _) p5)))) .nil) fun v25 h => ?_;refine cD h Ui p2 fun v27 h => ?_;cases h; exact (.p _)
  refine cG h Xv fun v29 h => ?_;refine ⟨rho [1, 3], (.cells (Qcu m ([])) :: .cells (V5 v29.2 2) :: .cells (Zz (cI .u8) v29.2.out) :: []), .tuple [], ⟨(rE rfl <| rN), (hC rfl (rE rfl <| rE rfl <| rE rfl <| rE rfl <| rE rfl <| rE rfl <| rE rfl <| rE rfl <| rE rfl <| rE rfl <| rE rfl <| rE rfl <| rE rfl <| rE rfl <| rE rfl <| rE rfl <| rE rfl <| rE rfl <| rS <| rE rfl <| rN) <| hV lb <| hN), rfl, rfl, (roE rfl <| roE (Q0e _ _ _) <| roN), rfl, (fK rfl rfl <| fR 0 rfl rfl rfl rfl <| fO 2 rfl rfl rfl <| fN), rfl⟩, ?_⟩;refine iL h fun h => ?_;refine iL h fun h => ?_;refine cP h Q01 (.cons (Frz.agg' (f8_ (f2_ (.cons (.p _) p5)))) .nil) fun v33 h => ?_;refine iL h fun h => ?_;refine cP h Jo (.cons (Frz.agg' (f8_ (f2_ (.cons (.p _) p5)))) .nil) fun v36 h => ?_;refine iL h fun h => ?_;refine cP h Q0y (.cons (Frz.agg' (f8_ (f2_ (.cons (.p _) p5)))) .nil) fun v39 h => ?_;refine iL h fun h => ?_;refine Qi ?_;refine cD h Js (.cons (Frz.agg' (f8_ (f2_ (.cons (.p _) p5)))) .nil) fun v42 h => ?_;refine cD h Ui p2 fun v44 h => ?_;cases h; exact (.p _)
 refine cG h Xv fun v46 h => ?_;refine ⟨rho [1, 3], (.cells (Qcu m ([])) :: .cells (V5 v46.2 2) :: .cells (Zz (cI .u8) v46.2.out) :: []), .tuple [], ⟨(rE rfl <| rN), (hC rfl (rE rfl <| rE rfl <| rE rfl <| rE rfl <| rE rfl <| rE rfl <| rE rfl <| rE rfl <| rE rfl <| rE rfl <| rE rfl <| rE rfl <| rE rfl <| rE rfl <| rE rfl <| rE rfl <| rE rfl <| rE rfl <| rS <| rE rfl <| rN) <| hV lb <| hN), rfl, rfl, (roE rfl <| roE (Q0e _ _ _) <| roN), rfl, (fK rfl rfl <| fR 0 rfl rfl rfl rfl <| fO 2 rfl rfl rfl <| fN), rfl⟩, ?_⟩;refine iL h fun h => ?_;refine iL h fun h => ?_;refine cP h Q01 (.cons (Frz.agg' (f8_ (f2_ (.cons (.p _) p5)))) .nil) fun v50 h => ?_;refine iL h fun h => ?_;refine cP h Jo (.cons (Frz.agg' (f8_ (f2_ (.cons (.p _) p5)))) .nil) fun v53 h => ?_;refine iL h fun h => ?_;refine cP h Q0y (.cons (Frz.agg' (f8_ (f2_ (.cons (.p _) p5)))) .nil) fun v56 h => ?_;refine iL h fun h => ?_;refine Qi ?_;refine cD h Js (.cons (Frz.agg' (f8_ (f2_ (.cons (.p _) p5)))) .nil) fun v59 h => ?_;refine cD h Ui p2 fun v61 h => ?_;cases h; exact (.p _)
def Uj (N : Nat) (m : Um) : Option ((List UInt8) × Int) :=
 (Jh N m).bind fun v1 =>
 cond (Q7 .neq v1 0)
 (some ([], v1))
 ((Vh N m).bind fun v4 =>
 (Xn N m.Type' (v4.length : Int)).bind fun v6 =>
 cond (Q7 .neq v6.2 0)
 (some ([], v6.2))
 (cond (Nat.ble (v6.1.length + v4.length) 4611686018427387904) (some ((v6.1 ++ v4), 0)) none))
theorem Q2r {N} {m} {r} (h : Uj N m = some r) : pU 54 [.agg (Um.cells m)] (.tuple [.str r.1, .int .i64 r.2]) := by
 refine Q6 k54 ?_;unfold Uj at h;rw [cX] at h;refine cP h Q7q (.cons (Frz.agg' (f8_ (f2_ (.cons (.p _) p5)))) .nil) fun v1 h => ?_;refine iL2 h fun h => ?_;refine cP h Js (.cons (Frz.agg' (f8_ (f2_ (.cons (.p _) p5)))) .nil) fun v4 h => ?_;refine cP h Ui p2 fun v6 h => ?_;refine iL2 h fun h => ?_;refine kU h fun h => ?_;obtain rfl := Qj h; exact u2
def V8 (N : Nat) (h_0 : Uh) : Option (List UInt8) :=
 (Ze N (wrap .u64 (wrap .i64 (3 + (h_0.Node.length : Int)))) 1).bind fun v1 =>
 (Ze N 254 1).bind fun v3 =>
 cond (Nat.ble (v1.length + v3.length) 4611686018427387904) ((Ze N (wrap .u64 h_0.Radius) 1).bind fun v6 =>
 cond (Nat.ble ((v1 ++ v3).length + v6.length) 4611686018427387904) (cond (Nat.ble (((v1 ++ v3) ++ v6).length + h_0.Node.length) 4611686018427387904) (some (((v1 ++ v3) ++ v6) ++ h_0.Node)) none) none) none
theorem Q07 {N} {h_0} {r} (h : V8 N h_0 = some r) : pU 55 [.agg (Uh.cells h_0)] (.str r) := by
 refine Q6 k55 ?_;unfold V8 at h;refine Qi ?_;refine cD h Zf p2 fun v1 h => ?_;refine cD h Zf p2 fun v3 h => ?_;refine kU h fun h => ?_;refine cD h Zf p2 fun v6 h => ?_;refine kU h fun h => ?_;refine kU h fun h => ?_;cases h; exact (.p _)
def X2 (N : Nat) (d : Z9) (l : Us) (v26 : (List UInt8) × Int) : Nat → (List UInt8) → Int → Option ((List UInt8) × Int)
 | 0, _, _ => none
 | n + 1, out43, s44 =>
  cond (Q7 .lss s44 ((Qd Uh.cells d.Hops).length : Int))
  ((idx d.Hops s44).bind fun y46 =>
  (V8 N y46).bind fun v48 =>
  cond (Nat.ble (out43.length + v48.length) 4611686018427387904) (X2 N d l v26 n (out43 ++ v48) (wrap .i64 (s44 + 1))) none)
  (cond (Q7 .gtr (wrap .i64 ((out43.length : Int) + (v26.1.length : Int))) l.MaxPacket)
  (some ([], 4))
  (cond (Nat.ble (out43.length + v26.1.length) 4611686018427387904) (some ((out43 ++ v26.1), 0)) none))
def X3 (N : Nat) (d : Z9) (l : Us) (v53 : (List UInt8) × Int) : Nat → (List UInt8) → Int → Option ((List UInt8) × Int)
 | 0, _, _ => none
 | n + 1, out70, s71 =>
  cond (Q7 .lss s71 ((Qd Uh.cells d.Hops).length : Int))
  ((idx d.Hops s71).bind fun y73 =>
  (V8 N y73).bind fun v75 =>
  cond (Nat.ble (out70.length + v75.length) 4611686018427387904) (X3 N d l v53 n (out70 ++ v75) (wrap .i64 (s71 + 1))) none)
  (cond (Q7 .gtr (wrap .i64 ((out70.length : Int) + (v53.1.length : Int))) l.MaxPacket)
  (some ([], 4))
  (cond (Nat.ble (out70.length + v53.1.length) 4611686018427387904) (some ((out70 ++ v53.1), 0)) none))
def Ys (N : Nat) (d : Z9) (l : Us) : Nat → Int → Option ((List UInt8) × Int)
 | 0, _ => none
 | n + 1, s18 =>
  cond (Q7 .lss s18 ((Qd Uh.cells d.Hops).length : Int))
  ((idx d.Hops s18).bind fun y20 =>
  (J2 N y20).bind fun v22 =>
  cond v22
  (cond (Q7 .geq s18 0)
  (some ([], 2))
  ((Uj N d.Msg).bind fun v26 =>
  cond (Q7 .neq v26.2 0)
  (some ([], v26.2))
  (X2 N d l v26 N [] 0)))
  (Ys N d l n (wrap .i64 (s18 + 1))))
  ((Uj N d.Msg).bind fun v53 =>
  cond (Q7 .neq v53.2 0)
  (some ([], v53.2))
  (X3 N d l v53 N [] 0))
def Gj (N : Nat) (d : Z9) (l : Us) : Option ((List UInt8) × Int) :=
 (Uu N l).bind fun v1 =>
 cond (!v1)
 (some ([], 2))
 (cond (Q7 .gtr ((Qd Uh.cells d.Hops).length : Int) 4)
 (some ([], 12))
 (Ys N d l N 0))
theorem Q6n {N} {d} {l} {r} (h : Gj N d l = some r) : pU 40 [.agg (Z9.cells d), .agg (Us.cells l)] (.tuple [.str r.1, .int .i64 r.2]) := by
 refine Q6 k40 ?_;unfold Gj at h;rw [cX] at h;refine cP h Q6u (.cons q2 .nil) fun v1 h => ?_;refine iL2 h fun h => ?_;refine iL2 h fun h => ?_;refine Q8 k51 ?_;refine Q8 k60 ?_;refine lpH (τ := Int) (fun s18 => (.p (.slice 2 (Qd Uh.cells d.Hops)) :: .p (.func (.func 52) [] []) :: a4 (.any :: iI ((Qd Uh.cells d.Hops).length : Int) :: iI s18 :: a8 (a2 ([]))) : List AV)) (fun n0 s18 => Ys N d l n0 s18) (0) h fun n0 s18 h => ?_
 first | rw [Ys] at h | simp only [Ys] at h
 rw [cX] at h;apply iU h <;> intro h
 ·refine xR h fun y20 h => ?_;refine cP h Q4s (.cons q2 .nil) fun v22 h => ?_;apply iU h <;> intro h
  ·refine iL2 h fun h => ?_;refine cP h Q2r (.cons (Frz.agg' (f8_ (f2_ (.cons (.p _) p5)))) .nil) fun v26 h => ?_;refine iL2 h fun h => ?_;refine lpH (τ := (List UInt8) × Int) (fun ⟨out43, s44⟩ => (a2 (.any :: .ptr 1 0 :: .any :: .any :: iS v26.1 :: .any :: iS out43 :: a16 (a4 (a2 (.p (.slice 2 (Qd Uh.cells d.Hops)) :: iI ((Qd Uh.cells d.Hops).length : Int) :: iI s44 :: a16 (a2 (.any :: [])))))) : List AV)) (fun n1 ⟨out43, s44⟩ => X2 N d l v26 n1 out43 s44) ([], 0) h fun n1 ⟨out43, s44⟩ h => ?_
   first | rw [X2] at h | simp only [X2] at h
   rw [cX] at h;apply iU h <;> intro h
   ·refine xR h fun y46 h => ?_;refine cP h Q07 (.cons q2 .nil) fun v48 h => ?_;refine kU h fun h => ?_;show Exists _;exact ⟨(n1, (out43 ++ v48), (wrap .i64 (s44 + 1))), h, Lg _, (fun i => i), Zq⟩
   refine iL2 h fun h => ?_;refine kU h fun h => ?_;obtain rfl := Qj h; exact u2
  show Exists _;exact ⟨(n0, (wrap .i64 (s18 + 1))), h, Lg _, (fun i => i), Zq⟩
 refine dF ?_;refine cP h Q2r (.cons (Frz.agg' (f8_ (f2_ (.cons (.p _) p5)))) .nil) fun v53 h => ?_;refine iL2 h fun h => ?_;refine lpH (τ := (List UInt8) × Int) (fun ⟨out70, s71⟩ => (a2 (.any :: .ptr 1 0 :: .any :: .any :: iS v53.1 :: .any :: iS out70 :: a16 (a4 (a2 (.p (.slice 2 (Qd Uh.cells d.Hops)) :: iI ((Qd Uh.cells d.Hops).length : Int) :: iI s71 :: a16 (a2 (.any :: [])))))) : List AV)) (fun n2 ⟨out70, s71⟩ => X3 N d l v53 n2 out70 s71) ([], 0) h fun n2 ⟨out70, s71⟩ h => ?_
 first | rw [X3] at h | simp only [X3] at h
 rw [cX] at h;apply iU h <;> intro h
 ·refine xR h fun y73 h => ?_;refine cP h Q07 (.cons q2 .nil) fun v75 h => ?_;refine kU h fun h => ?_;show Exists _;exact ⟨(n2, (out70 ++ v75), (wrap .i64 (s71 + 1))), h, Lg _, (fun i => i), Zq⟩
 refine iL2 h fun h => ?_;refine kU h fun h => ?_;obtain rfl := Qj h; exact u2
def Vv (N : Nat) (d : Z9) (l : Us) : Option Int :=
 (Gj N d l).bind fun v1 =>
 some v1.2
theorem Q6m {N} {d} {l} {r} (h : Vv N d l = some r) : pU 20 [.agg (Z9.cells d), .agg (Us.cells l)] (.int .i64 r) := by
 refine Q6 k20 ?_;unfold Vv at h;refine cP h Q6n (.cons (Frz.agg' (f8_ (f2_ (f1_ (.cons (.p _) p5))))) (.cons q2 .nil)) fun v1 h => ?_;cases h; exact (.p _)
def Gg (_N : Nat) : Option (Us) :=
 some (⟨1048576, 32⟩ : Us)
theorem Q47 {N} {r} (h : Gg N = some r) : pU 21 [] (.agg (Us.cells r)) := by
 refine Q6 k21 ?_;unfold Gg at h;obtain rfl := Qj h; exact q2
def Vj (N : Nat) (a : Jp) (id : Int) : Option ((List UInt8) × Bool) :=
 (Yu N id).bind fun v1 =>
 some (v1.1, v1.2)
theorem Q2y {N} {a} {id} {r} (h : Vj N a id = some r) : pU 158 [.agg (Jp.cells a), .int .i64 id] (.tuple [.str r.1, .bool r.2]) := by
 refine Q6 Qv7 ?_;unfold Vj at h;refine cP h U2 p1 fun v1 h => ?_;obtain rfl := Qj h; exact u2
def J3 (N : Nat) (R0 : Reg) (client : List UInt8) (d : Z9) : Option ((Wa × Int) × Reg) :=
 (Gg N).bind fun v1 =>
 (Vv N d v1).bind fun v3 =>
 cond (Q7 .neq v3 0)
 (some (((⟨0, 0, [], [], 0, false, false, 0, [], 0, [], 0, (⟨0, false, false, 0, 0, [], [], false, 0, [], false, [], false, [], false, (⟨[], [], 0, false, []⟩ : Q5z), false, 0, [], [], []⟩ : Xr), (⟨0, (⟨false, 0, false, false, false, 0⟩ : Yp), 0, 0, 0, false, 0, 0, 0, [], []⟩ : Um), (⟨0, 0, [], []⟩ : V4)⟩ : Wa), v3), R0))
 ((Q2d N d.Hops).bind fun v6 =>
 cond (Q7 .neq d.Msg.Type' 12)
 (some (((⟨3, 2, [], [], 0, false, false, 0, [], 0, v6, 0, (⟨0, false, false, 0, 0, [], [], false, 0, [], false, [], false, [], false, (⟨[], [], 0, false, []⟩ : Q5z), false, 0, [], [], []⟩ : Xr), d.Msg, (⟨0, 0, [], []⟩ : V4)⟩ : Wa), 0), R0))
 (cond (Q7 .eql d.Msg.Flags.Type' 2)
 ((Vj N (⟨⟩ : Jp) d.Msg.TopicID).bind fun v24 =>
 cond (!v24.2)
 (some (((⟨0, 0, [], [], 0, false, false, 0, [], 0, [], 0, (⟨0, false, false, 0, 0, [], [], false, 0, [], false, [], false, [], false, (⟨[], [], 0, false, []⟩ : Q5z), false, 0, [], [], []⟩ : Xr), (⟨0, (⟨false, 0, false, false, false, 0⟩ : Yp), 0, 0, 0, false, 0, 0, 0, [], []⟩ : Um), (⟨0, 0, [], []⟩ : V4)⟩ : Wa), 11), R0))
 (some (((⟨3, 1, v24.1, d.Msg.Data, d.Msg.Flags.QoS, d.Msg.Flags.Retain, d.Msg.Flags.Dup, d.Msg.MsgID, [], d.Msg.Flags.Type', v6, 0, (⟨0, false, false, 0, 0, [], [], false, 0, [], false, [], false, [], false, (⟨[], [], 0, false, []⟩ : Q5z), false, 0, [], [], []⟩ : Xr), (⟨0, (⟨false, 0, false, false, false, 0⟩ : Yp), 0, 0, 0, false, 0, 0, 0, [], []⟩ : Um), (⟨0, 0, [], []⟩ : V4)⟩ : Wa), 0), R0)))
 (cond (Q7 .eql d.Msg.Flags.Type' 1)
 ((Q6t N R0 client d.Msg.TopicID).bind fun v27 =>
 cond (Q7 .neq v27.1.2 0)
 (some (((⟨0, 0, [], [], 0, false, false, 0, [], 0, [], 0, (⟨0, false, false, 0, 0, [], [], false, 0, [], false, [], false, [], false, (⟨[], [], 0, false, []⟩ : Q5z), false, 0, [], [], []⟩ : Xr), (⟨0, (⟨false, 0, false, false, false, 0⟩ : Yp), 0, 0, 0, false, 0, 0, 0, [], []⟩ : Um), (⟨0, 0, [], []⟩ : V4)⟩ : Wa), 11), v27.2))
 ((Q4n N v27.2 client d.Msg.TopicID).bind fun v30 =>
 cond (!(v30.1 == true))
 (some (((⟨0, 0, [], [], 0, false, false, 0, [], 0, [], 0, (⟨0, false, false, 0, 0, [], [], false, 0, [], false, [], false, [], false, (⟨[], [], 0, false, []⟩ : Q5z), false, 0, [], [], []⟩ : Xr), (⟨0, (⟨false, 0, false, false, false, 0⟩ : Yp), 0, 0, 0, false, 0, 0, 0, [], []⟩ : Um), (⟨0, 0, [], []⟩ : V4)⟩ : Wa), 11), v30.2))
 (some (((⟨3, 1, v27.1.1, d.Msg.Data, d.Msg.Flags.QoS, d.Msg.Flags.Retain, d.Msg.Flags.Dup, d.Msg.MsgID, [], d.Msg.Flags.Type', v6, 0, (⟨0, false, false, 0, 0, [], [], false, 0, [], false, [], false, [], false, (⟨[], [], 0, false, []⟩ : Q5z), false, 0, [], [], []⟩ : Xr), (⟨0, (⟨false, 0, false, false, false, 0⟩ : Yp), 0, 0, 0, false, 0, 0, 0, [], []⟩ : Um), (⟨0, 0, [], []⟩ : V4)⟩ : Wa), 0), v30.2))))
 ((Q6t N R0 client d.Msg.TopicID).bind fun v33 =>
 cond (Q7 .neq v33.1.2 0)
 (some (((⟨0, 0, [], [], 0, false, false, 0, [], 0, [], 0, (⟨0, false, false, 0, 0, [], [], false, 0, [], false, [], false, [], false, (⟨[], [], 0, false, []⟩ : Q5z), false, 0, [], [], []⟩ : Xr), (⟨0, (⟨false, 0, false, false, false, 0⟩ : Yp), 0, 0, 0, false, 0, 0, 0, [], []⟩ : Um), (⟨0, 0, [], []⟩ : V4)⟩ : Wa), 11), v33.2))
 ((Q4n N v33.2 client d.Msg.TopicID).bind fun v36 =>
 cond (!(v36.1 == false))
 (some (((⟨0, 0, [], [], 0, false, false, 0, [], 0, [], 0, (⟨0, false, false, 0, 0, [], [], false, 0, [], false, [], false, [], false, (⟨[], [], 0, false, []⟩ : Q5z), false, 0, [], [], []⟩ : Xr), (⟨0, (⟨false, 0, false, false, false, 0⟩ : Yp), 0, 0, 0, false, 0, 0, 0, [], []⟩ : Um), (⟨0, 0, [], []⟩ : V4)⟩ : Wa), 11), v36.2))
 (some (((⟨3, 1, v33.1.1, d.Msg.Data, d.Msg.Flags.QoS, d.Msg.Flags.Retain, d.Msg.Flags.Dup, d.Msg.MsgID, [], d.Msg.Flags.Type', v6, 0, (⟨0, false, false, 0, 0, [], [], false, 0, [], false, [], false, [], false, (⟨[], [], 0, false, []⟩ : Q5z), false, 0, [], [], []⟩ : Xr), (⟨0, (⟨false, 0, false, false, false, 0⟩ : Yp), 0, 0, 0, false, 0, 0, 0, [], []⟩ : Um), (⟨0, 0, [], []⟩ : V4)⟩ : Wa), 0), v36.2)))))))
theorem Q1d {N} {R0} {client} {d} {r} (h : J3 N R0 client d = some r) : Q1h Tryz.prog G1 8 R0 [.str client, .agg (Z9.cells d)] (.tuple [.agg (Wa.cells r.1.1), .int .i64 r.1.2]) r.2 := by
 refine Qi3 k8 ?_;unfold J3 at h;rw [cX] at h;refine Qi ?_;refine cD h Q47 p0 fun v1 h => ?_;refine cD h Q6m (.cons (Frz.agg' (f8_ (f2_ (f1_ (.cons (.p _) p5))))) p1) fun v3 h => ?_;apply iU h <;> intro h
 ·obtain rfl := Qj h; exact ⟨1, rfl, (Frz.tuple' (.cons (Frz.agg' (f8_ (.cons (.nil _) (.cons (.p _) (.cons (.nil _) (Q40 (f4_ (.cons (.nil _) (f2_ (.cons (.nil _) (.cons (.nil _) (.cons (.nil _) (Q40 (f2_ (f1_ (.cons (.nil _) .nil)))))))))))))))) p1))⟩
 refine cO h Q8u (fun v6 => .slice 2 4 0 v6.length) (rE rfl <| rN) fun v6 h => ?_;apply iU h <;> intro h
 ·obtain rfl := Qj h; exact ⟨1, rfl, (Frz.tuple' (.cons (Frz.agg' (f8_ (.cons (.nil _) (.cons (.p _) (.cons (frz_own (c := Uh.cells) (l := (v6 : List Uh)) (fun _ => rfl) rfl (by decide) sd) (Q40 (f4_ (.cons (.nil _) (f2_ (.cons (.nil _) (.cons (.nil _) (.cons (.nil _) (Q40 (f2_ (f1_ (.cons (.nil _) .nil)))))))))))))))) p1))⟩
 refine Qhx 8 0 rfl rfl rfl rfl rfl ?_;refine Qs3 h (fun hc22 h => ?_) (fun hc22 h => ?_)
 ·refine Q4m (r := .iface 112 (.agg [])) rfl rfl (Q8 k23 (ifT hc22 rfl)) ?_;refine cP h Q2y (.cons (Frz.agg' .nil) p1) fun v24 h => ?_;apply iU h <;> intro h
  ·obtain rfl := Qj h; exact ⟨1, rfl, (Frz.tuple' (.cons (Frz.agg' (f8_ (.cons (.nil _) (.cons (.p _) (.cons (.nil _) (Q40 (f4_ (.cons (.nil _) (f2_ (.cons (.nil _) (.cons (.nil _) (.cons (.nil _) (Q40 (f2_ (f1_ (.cons (.nil _) .nil)))))))))))))))) p1))⟩
  refine Qi ?_;refine Qi ?_;obtain rfl := Qj h; exact ⟨1, rfl, (Frz.tuple' (.cons (Frz.agg' (f8_ (.cons (.nil _) (.cons (.p _) (.cons (frz_own (c := Uh.cells) (l := (v6 : List Uh)) (fun _ => rfl) rfl (by decide) sd) (Q40 (f4_ (.cons (.nil _) (f2_ (.cons (.nil _) (.cons (.nil _) (.cons (.nil _) (Q40 (f2_ (f1_ (.cons (.nil _) .nil)))))))))))))))) p1))⟩
 refine Qs3 h (fun hc23 h => ?_) (fun hc23 h => ?_)
 ·refine Q4m (r := .iface 114 (.agg [.ptr 0 0, iS client])) rfl rfl (Q8 k23 (ifF hc22 (ifT hc23 rfl))) ?_;refine Q8 Qw2 ?_;refine Q8 Que ?_;refine cRg h Q5j (b := 1) rfl p2 fun v27 h => ?_;apply iU h <;> intro h
  ·obtain rfl := Qj h; exact ⟨9, rfl, (Frz.tuple' (.cons (Frz.agg' (f8_ (.cons (.nil _) (.cons (.p _) (.cons (.nil _) (Q40 (f4_ (.cons (.nil _) (f2_ (.cons (.nil _) (.cons (.nil _) (.cons (.nil _) (Q40 (f2_ (f1_ (.cons (.nil _) .nil)))))))))))))))) p1))⟩
  refine cRg h Q4f (b := 9) rfl p2 fun v30 h => ?_;apply iU h <;> intro h
  ·obtain rfl := Qj h; exact ⟨10, rfl, (Frz.tuple' (.cons (Frz.agg' (f8_ (.cons (.nil _) (.cons (.p _) (.cons (.nil _) (Q40 (f4_ (.cons (.nil _) (f2_ (.cons (.nil _) (.cons (.nil _) (.cons (.nil _) (Q40 (f2_ (f1_ (.cons (.nil _) .nil)))))))))))))))) p1))⟩
  refine Qi ?_;refine Qi ?_;obtain rfl := Qj h; exact ⟨10, rfl, (Frz.tuple' (.cons (Frz.agg' (f8_ (.cons (.nil _) (.cons (.p _) (.cons (frz_own (c := Uh.cells) (l := (v6 : List Uh)) (fun _ => rfl) rfl (by decide) sd) (Q40 (f4_ (.cons (.nil _) (f2_ (.cons (.nil _) (.cons (.nil _) (.cons (.nil _) (Q40 (f2_ (f1_ (.cons (.nil _) .nil)))))))))))))))) p1))⟩
 refine Q4m (r := .iface 115 (.agg [.ptr 0 0, iS client])) rfl rfl (Q8 k23 (ifF hc22 (ifF hc23 rfl))) ?_;refine Q8 Qvm ?_;refine Q8 Que ?_;refine cRg h Q5j (b := 1) rfl p2 fun v33 h => ?_;apply iU h <;> intro h
 ·obtain rfl := Qj h; exact ⟨9, rfl, (Frz.tuple' (.cons (Frz.agg' (f8_ (.cons (.nil _) (.cons (.p _) (.cons (.nil _) (Q40 (f4_ (.cons (.nil _) (f2_ (.cons (.nil _) (.cons (.nil _) (.cons (.nil _) (Q40 (f2_ (f1_ (.cons (.nil _) .nil)))))))))))))))) p1))⟩
 refine cRg h Q4f (b := 9) rfl p2 fun v36 h => ?_;apply iU h <;> intro h
 ·obtain rfl := Qj h; exact ⟨10, rfl, (Frz.tuple' (.cons (Frz.agg' (f8_ (.cons (.nil _) (.cons (.p _) (.cons (.nil _) (Q40 (f4_ (.cons (.nil _) (f2_ (.cons (.nil _) (.cons (.nil _) (.cons (.nil _) (Q40 (f2_ (f1_ (.cons (.nil _) .nil)))))))))))))))) p1))⟩
 refine Qi ?_;refine Qi ?_;obtain rfl := Qj h; exact ⟨10, rfl, (Frz.tuple' (.cons (Frz.agg' (f8_ (.cons (.nil _) (.cons (.p _) (.cons (frz_own (c := Uh.cells) (l := (v6 : List Uh)) (fun _ => rfl) rfl (by decide) sd) (Q40 (f4_ (.cons (.nil _) (f2_ (.cons (.nil _) (.cons (.nil _) (.cons (.nil _) (Q40 (f2_ (f1_ (.cons (.nil _) .nil)))))))))))))))) p1))⟩
def Yh (N : Nat) (a : List G0) (b : List G0) : Nat → Int → Option Bool
 | 0, _ => none
 | n + 1, i17 =>
  cond (Q7 .lss i17 ((Qd G0.cells a).length : Int))
  ((idx a i17).bind fun y19 =>
  (idx b i17).bind fun y21 =>
  cond (!(((y19.ID : Int) == y21.ID) && (((y19.N' : Int) == y21.N') && (((y19.Text : List UInt8) == y21.Text) && (((y19.Value : List UInt8) == y21.Value) && true)))))
  (some false)
  (Yh N a b n (wrap .i64 (i17 + 1))))
  (some true)
def Yj (N : Nat) (a : List G0) (b : List G0) : Option Bool :=
 cond (Q7 .neq ((Qd G0.cells a).length : Int) ((Qd G0.cells b).length : Int))
 (some false)
 (Yh N a b N 0)
theorem Vm {N} {a} {b} {r} (h : Yj N a b = some r) : pU 24 [.slice 4 (Qd G0.cells a), .slice 4 (Qd G0.cells b)] (.bool r) := by
 refine Q6 k24 ?_;unfold Yj at h;rw [cX] at h;refine iL h fun h => ?_;refine lpH (τ := Int) (fun i17 => (.p (.slice 4 (Qd G0.cells a)) :: .p (.slice 4 (Qd G0.cells b)) :: a2 (.any :: iI i17 :: a16 (a4 ([]))) : List AV)) (fun n0 i17 => Yh N a b n0 i17) (0) h fun n0 i17 h => ?_
 first | rw [Yh] at h | simp only [Yh] at h
 rw [cX] at h;refine iR h fun h => ?_;refine Qi ?_;refine xR h fun y19 h => ?_;refine xR h fun y21 h => ?_;refine iL h fun h => ?_;show Exists _;exact ⟨(n0, (wrap .i64 (i17 + 1))), h, Lg _, (fun i => i), Zq⟩
def Yg (N : Nat) (a : List Uh) (b : List Uh) : Nat → Int → Option Bool
 | 0, _ => none
 | n + 1, i17 =>
  cond (Q7 .lss i17 ((Qd Uh.cells a).length : Int))
  ((idx a i17).bind fun y19 =>
  (idx b i17).bind fun y21 =>
  cond (!(((y19.Radius : Int) == y21.Radius) && (((y19.Node : List UInt8) == y21.Node) && true)))
  (some false)
  (Yg N a b n (wrap .i64 (i17 + 1))))
  (some true)
def Xz (N : Nat) (a : List Uh) (b : List Uh) : Option Bool :=
 cond (Q7 .neq ((Qd Uh.cells a).length : Int) ((Qd Uh.cells b).length : Int))
 (some false)
 (Yg N a b N 0)
theorem Q2k {N} {a} {b} {r} (h : Xz N a b = some r) : pU 25 [.slice 2 (Qd Uh.cells a), .slice 2 (Qd Uh.cells b)] (.bool r) := by
 refine Q6 k25 ?_;unfold Xz at h;rw [cX] at h;refine iL h fun h => ?_;refine lpH (τ := Int) (fun i17 => (.p (.slice 2 (Qd Uh.cells a)) :: .p (.slice 2 (Qd Uh.cells b)) :: a2 (.any :: iI i17 :: a16 (a4 ([]))) : List AV)) (fun n0 i17 => Yg N a b n0 i17) (0) h fun n0 i17 h => ?_
 first | rw [Yg] at h | simp only [Yg] at h
 rw [cX] at h;refine iR h fun h => ?_;refine Qi ?_;refine xR h fun y19 h => ?_;refine xR h fun y21 h => ?_;refine iL h fun h => ?_;show Exists _;exact ⟨(n0, (wrap .i64 (i17 + 1))), h, Lg _, (fun i => i), Zq⟩
def Ye (N : Nat) (a : List Int) (b : List Int) : Nat → Int → Option Bool
 | 0, _ => none
 | n + 1, i17 =>
  cond (Q7 .lss i17 ((Qd (cI .i64) a).length : Int))
  ((idx a i17).bind fun y19 =>
  (idx b i17).bind fun y21 =>
  cond (Q7 .neq y19 y21)
  (some false)
  (Ye N a b n (wrap .i64 (i17 + 1))))
  (some true)
def W3 (N : Nat) (a : List Int) (b : List Int) : Option Bool :=
 cond (Q7 .neq ((Qd (cI .i64) a).length : Int) ((Qd (cI .i64) b).length : Int))
 (some false)
 (Ye N a b N 0)
theorem Q2g {N} {a} {b} {r} (h : W3 N a b = some r) : pU 41 [.slice 1 (Qd (cI .i64) a), .slice 1 (Qd (cI .i64) b)] (.bool r) := by
 refine Q6 k41 ?_;unfold W3 at h;rw [cX] at h;refine iL h fun h => ?_;refine lpH (τ := Int) (fun i17 => (.p (.slice 1 (Qd (cI .i64) a)) :: .p (.slice 1 (Qd (cI .i64) b)) :: a2 (.any :: iI i17 :: a16 (a4 ([]))) : List AV)) (fun n0 i17 => Ye N a b n0 i17) (0) h fun n0 i17 h => ?_
 first | rw [Ye] at h | simp only [Ye] at h
 rw [cX] at h;refine iR h fun h => ?_;refine Qi ?_;refine xR h fun y19 h => ?_;refine xR h fun y21 h => ?_;refine iL h fun h => ?_;show Exists _;exact ⟨(n0, (wrap .i64 (i17 + 1))), h, Lg _, (fun i => i), Zq⟩
def Zx (N : Nat) (a : List Vc) (b : List Vc) : Nat → Int → Option Bool
 | 0, _ => none
 | n + 1, i17 =>
  cond (Q7 .lss i17 ((Qd Vc.cells a).length : Int))
  ((idx a i17).bind fun y19 =>
  (idx b i17).bind fun y21 =>
  cond (!(((y19.Topic : List UInt8) == y21.Topic) && (((y19.QoS : Int) == y21.QoS) && (((y19.NoLocal : Bool) == y21.NoLocal) && (((y19.AsPublished : Bool) == y21.AsPublished) && (((y19.Handling : Int) == y21.Handling) && true))))))
  (some false)
  (Zx N a b n (wrap .i64 (i17 + 1))))
  (some true)
def X6 (N : Nat) (a : List Vc) (b : List Vc) : Option Bool :=
 cond (Q7 .neq ((Qd Vc.cells a).length : Int) ((Qd Vc.cells b).length : Int))
 (some false)
 (Zx N a b N 0)
theorem Q12 {N} {a} {b} {r} (h : X6 N a b = some r) : pU 42 [.slice 5 (Qd Vc.cells a), .slice 5 (Qd Vc.cells b)] (.bool r) := by
 refine Q6 k42 ?_;unfold X6 at h;rw [cX] at h;refine iL h fun h => ?_;refine lpH (τ := Int) (fun i17 => (.p (.slice 5 (Qd Vc.cells a)) :: .p (.slice 5 (Qd Vc.cells b)) :: a2 (.any :: iI i17 :: a16 (a4 ([]))) : List AV)) (fun n0 i17 => Zx N a b n0 i17) (0) h fun n0 i17 h => ?_
 first | rw [Zx] at h | simp only [Zx] at h
 rw [cX] at h;refine iR h fun h => ?_;refine Qi ?_;refine xR h fun y19 h => ?_;refine xR h fun y21 h => ?_;refine iL h fun h => ?_;show Exists _;exact ⟨(n0, (wrap .i64 (i17 + 1))), h, Lg _, (fun i => i), Zq⟩
def Xw (N : Nat) (a : Xr) (b : Xr) : Option Bool :=
 cond (Jx .neq a.Will.Topic b.Will.Topic)
 (some false)
 (cond (Jx .neq a.Will.Payload b.Will.Payload)
 (some false)
 (cond (Q7 .neq a.Will.QoS b.Will.QoS)
 (some false)
 (cond (!(a.Will.Retain == b.Will.Retain))
 (some false)
 ((Yj N a.Will.Props b.Will.Props).bind fun v5 =>
 cond (!v5)
 (some false)
 (cond (Q7 .neq a.Kind b.Kind)
 (some false)
 (cond (!(a.Dup == b.Dup))
 (some false)
 (cond (!(a.Retain == b.Retain))
 (some false)
 (cond (Q7 .neq a.QoS b.QoS)
 (some false)
 (cond (Q7 .neq a.ID b.ID)
 (some false)
 (cond (Jx .neq a.Topic b.Topic)
 (some false)
 (cond (Jx .neq a.Payload b.Payload)
 (some false)
 (cond (!(a.Clean == b.Clean))
 (some false)
 (cond (Q7 .neq a.KeepAlive b.KeepAlive)
 (some false)
 (cond (Jx .neq a.Client b.Client)
 (some false)
 (cond (!(a.HasUser == b.HasUser))
 (some false)
 (cond (Jx .neq a.User b.User)
 (some false)
 (cond (!(a.HasPass == b.HasPass))
 (some false)
 (cond (Jx .neq a.Pass b.Pass)
 (some false)
 (cond (!(a.HasWill == b.HasWill))
 (some false)
 (cond (!(a.Session == b.Session))
 (some false)
 (cond (Q7 .neq a.Code b.Code)
 (some false)
 ((W3 N a.Codes b.Codes).bind fun v25 =>
 cond v25
 ((X6 N a.Filters b.Filters).bind fun v28 =>
 cond v28
 ((Yj N a.Props b.Props).bind fun v31 =>
 some v31)
 (some false))
 (some false)))))))))))))))))))))))
theorem Q2e {N} {a} {b} {r} (h : Xw N a b = some r) : pU 26 [.agg (Xr.cells a), .agg (Xr.cells b)] (.bool r) := by
 refine Q6 k26 ?_;unfold Xw at h;rw [cX, cY] at h;refine Qi ?_;refine iL h fun h => ?_;refine iL h fun h => ?_;refine iL h fun h => ?_;refine iL h fun h => ?_;refine cP h Vm p2 fun v5 h => ?_;refine iL h fun h => ?_;refine iL h fun h => ?_;refine iL h fun h => ?_;refine iL h fun h => ?_;refine iL h fun h => ?_;refine iL h fun h => ?_;refine iL h fun h => ?_;refine iL h fun h => ?_;refine iL h fun h => ?_;refine iL h fun h => ?_;refine iL h fun h => ?_;refine iL h fun h => ?_;refine iL h fun h => ?_;refine iL h fun h => ?_;refine iL h fun h => ?_;refine iL h fun h => ?_;refine iL h fun h => ?_;refine iL h fun h => ?_;refine cP h Q2g p2 fun v25 h => ?_;refine iR h fun h => ?_;refine cP h Q12 p2 fun v28 h => ?_;refine iR h fun h => ?_;refine cP h Vm p2 fun v31 h => ?_;cases h; exact (.p _)
def Y0 (rz : Qa → Qa → Option Bool) (N : Nat) (a : Qa) (b : Qa) : Nat → Int → Option Bool
 | 0, _ => none
 | n + 1, i22 =>
  cond (Q7 .lss i22 ((Qa.rows a.Items).length : Int))
  ((idx a.Items i22).bind fun y24 =>
  (idx b.Items i22).bind fun y26 =>
  (rz y24 y26).bind fun v28 =>
  cond (!v28)
  (some false)
  (Y0 rz N a b n (wrap .i64 (i22 + 1))))
  (some true)
def V7 (rz : Qa → Qa → Option Bool) (N : Nat) (a : Qa) (b : Qa) : Option Bool :=
 cond (Q7 .neq a.Kind b.Kind)
 (some false)
 (cond (Q7 .neq a.N' b.N')
 (some false)
 (cond (Jx .neq a.Text b.Text)
 (some false)
 (cond (Q7 .neq ((Qa.rows a.Items).length : Int) ((Qa.rows b.Items).length : Int))
 (some false)
 (Y0 rz N a b N 0))))
theorem Q27 {rz : Qa → Qa → Option Bool} (hy1 : ∀ {a} {b} {r}, rz a b = some r → pU 43 [.agg (Qa.cells a), .agg (Qa.cells b)] (.bool r)) {N} {a} {b} {r} (h : V7 rz N a b = some r) : pU 43 [.agg (Qa.cells a), .agg (Qa.cells b)] (.bool r) := by
 refine Q6 k43 ?_;unfold V7 at h;rw [cX, cY] at h;refine iL h fun h => ?_;refine iL h fun h => ?_;refine iL h fun h => ?_;refine iL h fun h => ?_;refine lpH (τ := Int) (fun i22 => (.any :: .any :: .ptr 0 0 :: .ptr 1 0 :: .any :: iI i22 :: a16 (a16 (a8 (a4 (a2 (.any :: []))))) : List AV)) (fun n0 i22 => Y0 rz N a b n0 i22) (0) h fun n0 i22 h => ?_
 first | rw [Y0] at h | simp only [Y0] at h
 rw [cX] at h;refine iR h fun h => ?_;refine Qi ?_;refine Qa.xR h fun y24 h => ?_;refine Qa.xR h fun y26 h => ?_;refine cD h hy1 (.cons q4 (.cons q4 .nil)) fun v28 h => ?_;refine iL h fun h => ?_;show Exists _;exact ⟨(n0, (wrap .i64 (i22 + 1))), h, Lg _, (fun i => i), Zq⟩
def Yk : Nat → Qa → Qa → Option Bool
 | 0 => fun _ _ => none
 | N + 1 => V7 (Yk N) N
theorem Q2h {N} {a} {b} {r} (h : Yk N a b = some r) : pU 43 [.agg (Qa.cells a), .agg (Qa.cells b)] (.bool r) := by
 induction N generalizing a b r with
 | zero => simp [Yk] at h
 | succ N ih => exact Q27 (fun h => ih h) h
def Zd (N : Nat) (a : V4) (b : V4) : Nat → Int → Option Bool
 | 0, _ => none
 | n + 1, i22 =>
  cond (Q7 .lss i22 ((Qa.rows a.Values).length : Int))
  ((idx a.Values i22).bind fun y24 =>
  (idx b.Values i22).bind fun y26 =>
  (Yk N y24 y26).bind fun v28 =>
  cond (!v28)
  (some false)
  (Zd N a b n (wrap .i64 (i22 + 1))))
  (some true)
def W0 (N : Nat) (a : V4) (b : V4) : Option Bool :=
 cond (Q7 .neq a.Type' b.Type')
 (some false)
 (cond (Q7 .neq a.Channel b.Channel)
 (some false)
 (cond (Jx .neq a.Ext b.Ext)
 (some false)
 (cond (Q7 .neq ((Qa.rows a.Values).length : Int) ((Qa.rows b.Values).length : Int))
 (some false)
 (Zd N a b N 0))))
theorem Q2i {N} {a} {b} {r} (h : W0 N a b = some r) : pU 27 [.agg (V4.cells a), .agg (V4.cells b)] (.bool r) := by
 refine Q6 k27 ?_;unfold W0 at h;rw [cX, cY] at h;refine iL h fun h => ?_;refine iL h fun h => ?_;refine iL h fun h => ?_;refine iL h fun h => ?_;refine lpH (τ := Int) (fun i22 => (.any :: .any :: .ptr 0 0 :: .ptr 1 0 :: .any :: iI i22 :: a16 (a16 (a8 (a4 (a2 (.any :: []))))) : List AV)) (fun n0 i22 => Zd N a b n0 i22) (0) h fun n0 i22 h => ?_
 first | rw [Zd] at h | simp only [Zd] at h
 rw [cX] at h;refine iR h fun h => ?_;refine Qi ?_;refine Qa.xR h fun y24 h => ?_;refine Qa.xR h fun y26 h => ?_;refine cD h Q2h (.cons q4 (.cons q4 .nil)) fun v28 h => ?_;refine iL h fun h => ?_;show Exists _;exact ⟨(n0, (wrap .i64 (i22 + 1))), h, Lg _, (fun i => i), Zq⟩
def X8 (N : Nat) (a : Wa) (b : Wa) : Option Bool :=
 cond (Q7 .eql a.Proto b.Proto)
 (cond (Q7 .eql a.Kind b.Kind)
 (cond (Jx .eql a.Topic b.Topic)
 (cond (Jx .eql a.Payload b.Payload)
 (cond (Q7 .eql a.QoS b.QoS)
 (cond (a.Retain == b.Retain)
 (cond (a.Dup == b.Dup)
 (cond (Q7 .eql a.ID b.ID)
 ((Yj N a.Props b.Props).bind fun v9 =>
 cond v9
 (cond (Q7 .eql a.Type' b.Type')
 ((Xz N a.Hops b.Hops).bind fun v13 =>
 cond v13
 (cond (Q7 .eql a.Channel b.Channel)
 ((Xw N a.Packet b.Packet).bind fun v17 =>
 cond v17
 (cond (((a.Msg.Type' : Int) == b.Msg.Type') && (((a.Msg.Flags.Dup : Bool) == b.Msg.Flags.Dup) && (((a.Msg.Flags.QoS : Int) == b.Msg.Flags.QoS) && (((a.Msg.Flags.Retain : Bool) == b.Msg.Flags.Retain) && (((a.Msg.Flags.Will : Bool) == b.Msg.Flags.Will) && (((a.Msg.Flags.Clean : Bool) == b.Msg.Flags.Clean) && (((a.Msg.Flags.Type' : Int) == b.Msg.Flags.Type') && (((a.Msg.Gateway : Int) == b.Msg.Gateway) && (((a.Msg.Radius : Int) == b.Msg.Radius) && (((a.Msg.Time : Int) == b.Msg.Time) && (((a.Msg.Timed : Bool) == b.Msg.Timed) && (((a.Msg.TopicID : Int) == b.Msg.TopicID) && (((a.Msg.MsgID : Int) == b.Msg.MsgID) && (((a.Msg.Code : Int) == b.Msg.Code) && (((a.Msg.Name : List UInt8) == b.Msg.Name) && (((a.Msg.Data : List UInt8) == b.Msg.Data) && true))))))))))))))))
 ((W0 N a.Frame b.Frame).bind fun v21 =>
 some v21)
 (some false))
 (some false))
 (some false))
 (some false))
 (some false))
 (some false))
 (some false))
 (some false))
 (some false))
 (some false))
 (some false))
 (some false))
 (some false))
 (some false)
theorem Jf {N} {a} {b} {r} (h : X8 N a b = some r) : pU 9 [.agg (Wa.cells a), .agg (Wa.cells b)] (.bool r) := by
 refine Q6 k9 ?_;unfold X8 at h;rw [cX, cY] at h;refine iR h fun h => ?_;refine iR h fun h => ?_;refine iR h fun h => ?_;refine iR h fun h => ?_;refine iR h fun h => ?_;refine iR h fun h => ?_;refine iR h fun h => ?_;refine iR h fun h => ?_;refine cP h Vm p2 fun v9 h => ?_;refine iR h fun h => ?_;refine iR h fun h => ?_;refine cP h Q2k p2 fun v13 h => ?_;refine iR h fun h => ?_;refine iR h fun h => ?_;refine cP h Q2e (.cons (Frz.agg' (Q40 (f2_ (f1_ (.cons (.p _) p5))))) (.cons (Frz.agg' (Q40 (f2_ (f1_ (.cons (.p _) p5))))) .nil)) fun v17 h => ?_;refine iR h fun h => ?_;refine Qtf (ks := [0, 2, 0, 2, 2, 2, 0, 0, 0, 0, 2, 0, 0, 0, 1, 1]) (xs := [iI a.Msg.Type', .p (.bool a.Msg.Flags.Dup), iI a.Msg.Flags.QoS, .p (.bool a.Msg.Flags.Retain), .p (.bool a.Msg.Flags.Will), .p (.bool a.Msg.Flags.Clean), iI a.Msg.Flags.Type', iI a.Msg.Gateway, iI a.Msg.Radius, iI a.Msg.Time, .p (.bool a.Msg.Timed), iI a.Msg.TopicID, iI a.Msg.MsgID, iI a.Msg.Code, iS a.Msg.Name, iS a.Msg.Data]) (ys := [iI b.Msg.Type', .p (.bool b.Msg.Flags.Dup), iI b.Msg.Flags.QoS, .p (.bool b.Msg.Flags.Retain), .p (.bool b.Msg.Flags.Will), .p (.bool b.Msg.Flags.Clean), iI b.Msg.Flags.Type', iI b.Msg.Gateway, iI b.Msg.Radius, iI b.Msg.Time, .p (.bool b.Msg.Timed), iI b.Msg.TopicID, iI b.Msg.MsgID, iI b.Msg.Code, iS b.Msg.Name, iS b.Msg.Data]) (b := (((a.Msg.Type' : Int) == b.Msg.Type') && (((a.Msg.Flags.Dup : Bool) == b.Msg.Flags.Dup) && (((a.Msg.Flags.QoS : Int) == b.Msg.Flags.QoS) && (((a.Msg.Flags.Retain : Bool) == b.Msg.Flags.Retain) && (((a.Msg.Flags.Will : Bool) == b.Msg.Flags.Will) && (((a.Msg.Flags.Clean : Bool) == b.Msg.Flags.Clean) && (((a.Msg.Flags.Type' : Int) == b.Msg.Flags.Type') && (((a.Msg.Gateway : Int) == b.Msg.Gateway) && (((a.Msg.Radius : Int) == b.Msg.Radius) && (((a.Msg.Time : Int) == b.Msg.Time) && (((a.Msg.Timed : Bool) == b.Msg.Timed) && (((a.Msg.TopicID : Int) == b.Msg.TopicID) && (((a.Msg.MsgID : Int) == b.Msg.MsgID) && (((a.Msg.Code : Int) == b.Msg.Code) && (((a.Msg.Name : List UInt8) == b.Msg.Name) && (((a.Msg.Data : List UInt8) == b.Msg.Data) && true))))))))))))))))) rfl ?_;refine iR h fun h => ?_;refine cP h Q2i (.cons q4 (.cons q4 .nil)) fun v21 h => ?_;cases h; exact (.p _)
def Y6 (N : Nat) (width : Int) : Nat → Int → (List UInt8) → Int → Option (List UInt8)
 | 0, _, _, _ => none
 | n + 1, n8, out9, i10 =>
  cond (Q7 .lss i10 width)
  (cond (Nat.ble ([UInt8.ofNat (wrap .u8 n8).toNat].length + out9.length) 4611686018427387904) (Y6 N width n (Q46 .u64 n8 8) ([UInt8.ofNat (wrap .u8 n8).toNat] ++ out9) (wrap .i64 (i10 + 1))) none)
  (some out9)
def Xj (N : Nat) (n_0 : Int) (width : Int) : Option (List UInt8) :=
 Y6 N width N n_0 [] 0
theorem Q2w {N} {n_0} {width} {r} (h : Xj N n_0 width = some r) : pU 28 [.int .u64 n_0, .int .i64 width] (.str r) := by
 refine Q6 k28 ?_;unfold Xj at h;refine lpH (τ := Int × (List UInt8) × Int) (fun ⟨n8, out9, i10⟩ => (iW n8 :: iI width :: a2 (.any :: iS out9 :: iI i10 :: a8 (a4 (a2 ([])))) : List AV)) (fun n0 ⟨n8, out9, i10⟩ => Y6 N width n0 n8 out9 i10) (n_0, [], 0) h fun n0 ⟨n8, out9, i10⟩ h => ?_
 first | rw [Y6] at h | simp only [Y6] at h
 rw [cX] at h;refine iR h fun h => ?_;refine kU h fun h => ?_;show Exists _;exact ⟨(n0, (Q46 .u64 n8 8), ([UInt8.ofNat (wrap .u8 n8).toNat] ++ out9), (wrap .i64 (i10 + 1))), h, Lg _, (fun i => i), Zq⟩
def Zo (N : Nat) (s_0 : List UInt8) : Nat → Int → Int → Option Int
 | 0, _, _ => none
 | n + 1, n9, i10 =>
  cond (Q7 .lss i10 (s_0.length : Int))
  ((idx s_0 i10).bind fun b12 =>
  Zo N s_0 n (orI .u64 (Q10 .u64 n9 8) (wrap .u64 (b12.toNat : Int))) (wrap .i64 (i10 + 1)))
  (some n9)
def Yl (N : Nat) (s_0 : List UInt8) : Option Int :=
 Zo N s_0 N 0 0
theorem Q1g {N} {s_0} {r} (h : Yl N s_0 = some r) : pU 44 [.str s_0] (.int .u64 r) := by
 refine Q6 k44 ?_;unfold Yl at h;refine lpH (τ := Int × Int) (fun ⟨n9, i10⟩ => (iS s_0 :: .any :: .any :: iW n9 :: iI i10 :: a8 (a4 (a2 ([]))) : List AV)) (fun n0 ⟨n9, i10⟩ => Zo N s_0 n0 n9 i10) (0, 0) h fun n0 ⟨n9, i10⟩ h => ?_
 first | rw [Zo] at h | simp only [Zo] at h
 rw [cX] at h;refine iR h fun h => ?_;refine xB h fun b12 h => ?_;show Exists _;exact ⟨(n0, (orI .u64 (Q10 .u64 n9 8) (wrap .u64 (b12.toNat : Int))), (wrap .i64 (i10 + 1))), h, Lg _, (fun i => i), Zq⟩
def Wq (N : Nat) (name : List UInt8) : Option (Int × Bool) :=
 cond (Q7 .neq (name.length : Int) 2)
 (some (0, false))
 ((X9 N name).bind fun v2 =>
 cond (!v2)
 (some (0, false))
 ((Yl N name).bind fun v5 =>
 some ((wrap .i64 v5), true)))
theorem Q1o {N} {name} {r} (h : Wq N name = some r) : pU 29 [.str name] (.tuple [.int .i64 r.1, .bool r.2]) := by
 refine Q6 k29 ?_;unfold Wq at h;rw [cX] at h;refine iL2 h fun h => ?_;refine cP h Vo p1 fun v2 h => ?_;refine iL2 h fun h => ?_;refine cP h Q1g p1 fun v5 h => ?_;obtain rfl := Qj h; exact u2
def Y2 (N : Nat) (id : Int) : Option ((List UInt8) × Bool) :=
 cond (Q7 .lss id 0)
 (some ([], false))
 (cond (Q7 .gtr id 65535)
 (some ([], false))
 ((Xj N (wrap .u64 id) 2).bind fun v3 =>
 (Wq N v3).bind fun v5 =>
 cond (!v5.2)
 (some ([], false))
 (some (v3, true))))
theorem Q2b {N} {id} {r} (h : Y2 N id = some r) : pU 10 [.int .i64 id] (.tuple [.str r.1, .bool r.2]) := by
 refine Q6 k10 ?_;unfold Y2 at h;rw [cX] at h;refine iL2 h fun h => ?_;refine iL2 h fun h => ?_;refine cP h Q2w p2 fun v3 h => ?_;refine cP h Q1o p1 fun v5 h => ?_;exact iB2 h
def Qz (N : Nat) (client : List UInt8) (other : List UInt8) (d : Z9) (R101 : Reg) (l160 : List Q0) : Nat → Int → (List Q1) → Reg → Option Bool
 | 0, _, _, _ => none
 | n + 1, i255, c256, R257 =>
  cond (Q7 .lss i255 (l160.length : Int))
  ((idx (l160 : List Q0) i255).bind fun y259 =>
  cond (Q7 .eql y259.ID 0)
  ((idx (l160 : List Q0) i255).bind fun y266 =>
  (idx (l160 : List Q0) i255).bind fun y268 =>
  (Vt N R257 y266.Client y268.Name).bind fun v270 =>
  (idx (l160 : List Q0) i255).bind fun y272 =>
  (idx (l160 : List Q0) i255).bind fun y274 =>
  (Z1 N (⟨c256⟩ : Q2) y272.Client y274.Name).bind fun v276 =>
  Qz N client other d R101 l160 n (wrap .i64 (i255 + 1)) v276.2.L v270.2)
  ((idx (l160 : List Q0) i255).bind fun y284 =>
  (idx (l160 : List Q0) i255).bind fun y286 =>
  (idx (l160 : List Q0) i255).bind fun y288 =>
  (Ve N R257 y284.Client y286.Name y288.ID).bind fun v290 =>
  (idx (l160 : List Q0) i255).bind fun y292 =>
  (idx (l160 : List Q0) i255).bind fun y294 =>
  (idx (l160 : List Q0) i255).bind fun y296 =>
  (Qw N (⟨c256⟩ : Q2) y292.Client y294.Name y296.ID).bind fun v298 =>
  Qz N client other d R101 l160 n (wrap .i64 (i255 + 1)) v298.2.L v290.2))
  ((J3 N R101 client d).bind fun v300 =>
  (J3 N R257 client d).bind fun v302 =>
  (X8 N v300.1.1 v302.1.1).bind fun v304 =>
  cond (!v304)
  (some false)
  (cond (Q7 .neq v300.1.2 v302.1.2)
  (some false)
  (cond (Q7 .neq d.Msg.Type' 12)
  (some true)
  (cond (Q7 .neq d.Msg.Flags.Type' 2)
  (some true)
  ((J3 N v300.2 other d).bind fun v310 =>
  (Y2 N d.Msg.TopicID).bind fun v312 =>
  (X8 N v300.1.1 v310.1.1).bind fun v314 =>
  cond v314
  (cond (Q7 .eql v300.1.2 v310.1.2)
  (cond (Q7 .neq v300.1.2 0)
  (some true)
  (cond v312.2
  (some (Jx .eql v300.1.1.Topic v312.1))
  (some false)))
  (some false))
  (some false))))))
def Qf (N : Nat) (t : List Q0) (client : List UInt8) (other : List UInt8) (d : Z9) (R101 : Reg) : Nat → Int → (List Q0) → Option Bool
 | 0, _, _ => none
 | n + 1, i159, l160 =>
  cond (Q7 .lss i159 ((Qd Q0.cells t).length : Int))
  ((idx t i159).bind fun y162 =>
  cond (Jx .eql y162.Client client)
  ((idx t i159).bind fun y165 =>
  cond (Nat.ble ((l160.length + 1 + 4096) * 40) 17592186044416) (Qf N t client other d R101 n (wrap .i64 (i159 + 1)) (l160 ++ [y165])) none)
  (Qf N t client other d R101 n (wrap .i64 (i159 + 1)) l160))
  (Qz N client other d R101 l160 N 0 [] [])
def Qy (N : Nat) (t : List Q0) (client : List UInt8) (other : List UInt8) (d : Z9) : Nat → Int → (List Q1) → Reg → Option Bool
 | 0, _, _, _ => none
 | n + 1, i99, Qjf, R101 =>
  cond (Q7 .lss i99 ((Qd Q0.cells t).length : Int))
  ((idx t i99).bind fun y103 =>
  cond (Q7 .eql y103.ID 0)
  ((idx t i99).bind fun y110 =>
  (idx t i99).bind fun y112 =>
  (Vt N R101 y110.Client y112.Name).bind fun v114 =>
  (idx t i99).bind fun y116 =>
  (idx t i99).bind fun y118 =>
  (Z1 N (⟨Qjf⟩ : Q2) y116.Client y118.Name).bind fun v120 =>
  Qy N t client other d n (wrap .i64 (i99 + 1)) v120.2.L v114.2)
  ((idx t i99).bind fun y128 =>
  (idx t i99).bind fun y130 =>
  (idx t i99).bind fun y132 =>
  (Ve N R101 y128.Client y130.Name y132.ID).bind fun v134 =>
  (idx t i99).bind fun y136 =>
  (idx t i99).bind fun y138 =>
  (idx t i99).bind fun y140 =>
  (Qw N (⟨Qjf⟩ : Q2) y136.Client y138.Name y140.ID).bind fun v142 =>
  Qy N t client other d n (wrap .i64 (i99 + 1)) v142.2.L v134.2))
  (Qf N t client other d R101 N 0 [])
def Yd (N : Nat) (t : List Q0) (client : List UInt8) (other : List UInt8) (d : Z9) : Option Bool :=
 (Gs N).bind fun v1 =>
 cond (!v1)
 (some false)
 ((Ws N t).bind fun v4 =>
 cond (!v4)
 (some true)
 (cond (Q7 .gtr (client.length : Int) 100)
 (some true)
 (cond (Q7 .gtr (other.length : Int) 100)
 (some true)
 ((X7 N d).bind fun v9 =>
 cond (!v9)
 (some true)
 (Qy N t client other d N 0 [] [])))))
theorem Gm {N} {t} {client} {other} {d} {r} (h : Yd N t client other d = some r) : pU 3 [.slice 3 (Qd Q0.cells t), .str client, .str other, .agg (Z9.cells d)] (.bool r) := by
 refine Q6 k3 ?_;unfold Yd at h;rw [cX] at h;refine cP h Q1u p0 fun v1 h => ?_;refine iL h fun h => ?_;refine cP h Q1x p1 fun v4 h => ?_;refine iL h fun h => ?_;refine iL h fun h => ?_;refine iL h fun h => ?_;refine cP h Gu (.cons (Frz.agg' (f8_ (f2_ (f1_ (.cons (.p _) p5))))) .nil) fun v9 h => ?_;refine iL h fun h => ?_;refine Q8 k7 ?_;refine Qh2 Ql8 1 rfl ?_;refine Q8 k15 ?_;refine lpC (τ := Int × (List Q1) × Reg) (fun ⟨i99, _, _⟩ => (.p (.slice 3 (Qd Q0.cells t)) :: a2 (.any :: .ptr 1 0 :: .ptr 3 0 :: iI i99 :: a16 (a16 (a16 (a16 (a8 (a2 ([]))))))) : List AV)) (fun ⟨_, Qjf, R101⟩ => (.cells (Q4y d ([])) :: .dead :: .dead :: .cells (.p (.slice 2 (Qd Q1.cells Qjf)) :: []) :: .ext R101 1 :: [] : List AObj)) (fun n0 ⟨i99, Qjf, R101⟩ => Qy N t client other d n0 i99 Qjf R101) (0, [], []) h (rho [0, 1, 2, 3, 2]) ⟨(rE rfl <| rW <| rA <| rE rfl <| rE rfl <| rE rfl <| rX <| rX <| rX <| rX <| rX <| rX <| rX <| rX <| rX <| rW <| rN), (hE rfl <| hD <| hD <| hC rfl (rF (.nil _) <| rN) <| hE rfl <| hN), rfl, rfl, (roE rfl <| roE rfl <| roE rfl <| roE rfl <| roE rfl <| roN)⟩ fun n0 ⟨i99, Qjf, R101⟩ h => ?_
 first | rw [Qy] at h | simp only [Qy] at h
 rw [cX] at h;apply iU h <;> intro h
 ·refine xR h fun y103 h => ?_;apply iU h <;> intro h
  ·refine Wo 11 rfl rfl ?_;refine xR h fun y110 h => ?_;refine xR h fun y112 h => ?_;refine cRg h Q1i (b := 4) rfl p2 fun v114 h => ?_;refine Qi ?_;refine xR h fun y116 h => ?_;refine xR h fun y118 h => ?_;refine dM h W5 rfl p2 fun v120 h => ?_;show Exists _;exact ⟨(n0, (wrap .i64 (i99 + 1)), v120.2.L, v114.2), h, Lg _, (rho [0, 1, 2, 3, 5]), Zq⟩
  refine Wo 16 rfl rfl ?_;refine xR h fun y128 h => ?_;refine xR h fun y130 h => ?_;refine xR h fun y132 h => ?_;refine cRg h Q17 (b := 4) rfl p3 fun v134 h => ?_;refine Qi ?_;refine xR h fun y136 h => ?_;refine xR h fun y138 h => ?_;refine xR h fun y140 h => ?_;refine dM h Xx rfl p3 fun v142 h => ?_;show Exists _;exact ⟨(n0, (wrap .i64 (i99 + 1)), v142.2.L, v134.2), h, Lg _, (rho [0, 1, 2, 3, 5]), Zq⟩
 refine lpA (τ := Int × (List Q0)) (fun ⟨i159, l160⟩ => (.p (.slice 3 (Qd Q0.cells t)) :: iS client :: iS other :: a4 (.ptr 0 0 :: .any :: .ptr 1 0 :: .any :: .slice 3 5 0 l160.length :: iI i159 :: a16 (a16 (a16 (a16 (a16 (a16 (a16 (a16 (.any :: []))))))))) : List AV)) (fun ⟨_, l160⟩ => (.cells (Q4y d ([])) :: .dead :: .dead :: .cells (.p (.slice 2 (Qd Q1.cells Qjf)) :: []) :: .ext R101 1 :: .cells (Zz Q0.cells l160) :: [] : List AObj)) (fun n1 ⟨i159, l160⟩ => Qf N t client other d R101 n1 i159 l160) (0, []) h fun n1 ⟨i159, l160⟩ h => ?_
 first | rw [Qf] at h | simp only [Qf] at h
 rw [cX, cY] at h;apply iU h <;> intro h
 ·refine xR h fun y162 h => ?_;apply iU h <;> intro h
  ·refine xR h fun y165 h => ?_;obtain ⟨hk167, h⟩ := Q36 h;refine Jv (Wb (c := Q0.cells) (e := 3) (fun _ => rfl) sd hk167) ?_;refine Ut (c := Q0.cells) [y165] rfl ?_;show Exists _;exact ⟨(n1, (wrap .i64 (i159 + 1)), (l160 ++ [y165])), h, Lg _, (rho [0, 1, 2, 3, 4, 7]), Zq⟩
  show Exists _;exact ⟨(n1, (wrap .i64 (i159 + 1)), l160), h, Lg _, (fun i => i), Zq⟩
 refine Q8 k7 ?_;refine Qh2 Ql8 6 rfl ?_;refine Q8 k15 ?_;refine lpC (τ := Int × (List Q1) × Reg) (fun ⟨i255, _, _⟩ => (.slice 3 5 0 l160.length :: a2 (.any :: .ptr 6 0 :: .ptr 8 0 :: iI i255 :: a16 (a16 (a16 (a16 (a8 (a2 ([]))))))) : List AV)) (fun ⟨_, c256, R257⟩ => (.cells (Q4y d ([])) :: .dead :: .dead :: .cells (.p (.slice 2 (Qd Q1.cells Qjf)) :: []) :: .ext R101 1 :: .cells (Zz Q0.cells l160) :: .dead :: .dead :: .cells (.p (.slice 2 (Qd Q1.cells c256)) :: []) :: .ext R257 6 :: [] : List AObj)) (fun n2 ⟨i255, c256, R257⟩ => Qz N client other d R101 l160 n2 i255 c256 R257) (0, [], []) h (rho [0, 1, 2, 3, 4, 5, 6, 7, 8, 7]) ⟨(rE rfl <| rW <| rA <| rE rfl <| rE rfl <| rE rfl <| rX <| rX <| rX <| rX <| rX <| rX <| rX <| rX <| rX <| rW <| rN), (hE rfl <| hD <| hD <| hE rfl <| hE rfl <| hO rfl <| hD <| hD <| hC rfl (rF (.nil _) <| rN) <| hE rfl <| hN), rfl, rfl, (roE rfl <| roE rfl <| roE rfl <| roE rfl <| roE rfl <| roE (Q0e _ _ _) <| roE rfl <| roE rfl <| roE rfl <| roE rfl <| roN)⟩ fun n2 ⟨i255, c256, R257⟩ h => ?_
 first | rw [Qz] at h | simp only [Qz] at h
 rw [cX, cY] at h;apply iU h <;> intro h
 ·obtain ⟨y259, hy260, h⟩ := Ux h;refine Jv (Vb hy260 sd) ?_
  refine Qbf (c := Q0.cells) (e := 3) (n := 1) (fun _ => rfl) hy260 (off := 2) (by decide) (by first | omega | (simp only [Q05, orI, Qa5, Wn, Q10, Q46]; omega)) ?_
  apply iU h <;> intro h
  ·refine Wo 11 rfl rfl ?_;obtain ⟨y266, hy267, h⟩ := Ux h;refine Jv (Vb hy267 sd) ?_
   refine Q3n (c := Q0.cells) (e := 3) (fun _ => rfl) hy267 (off := 0) (by decide) (by first | omega | (simp only [Q05, orI, Qa5, Wn, Q10, Q46]; omega)) ?_
   obtain ⟨y268, hy269, h⟩ := Ux h;refine Jv (Vb hy269 sd) ?_
   refine Q7s (c := Q0.cells) (e := 3) (n := 1) (fun _ => rfl) hy269 (off := 1) (by decide) (by first | omega | (simp only [Q05, orI, Qa5, Wn, Q10, Q46]; omega)) ?_
   refine cRg h Q1i (b := 9) rfl p2 fun v270 h => ?_;refine Qi ?_;obtain ⟨y272, hy273, h⟩ := Ux h;refine Jv (Vb hy273 sd) ?_
   refine Q3n (c := Q0.cells) (e := 3) (fun _ => rfl) hy273 (off := 0) (by decide) (by first | omega | (simp only [Q05, orI, Qa5, Wn, Q10, Q46]; omega)) ?_
   obtain ⟨y274, hy275, h⟩ := Ux h;refine Jv (Vb hy275 sd) ?_
   refine Q7s (c := Q0.cells) (e := 3) (n := 1) (fun _ => rfl) hy275 (off := 1) (by decide) (by first | omega | (simp only [Q05, orI, Qa5, Wn, Q10, Q46]; omega)) ?_
   refine dM h W5 rfl p2 fun v276 h => ?_;show Exists _;exact ⟨(n2, (wrap .i64 (i255 + 1)), v276.2.L, v270.2), h, Lg _, (rho [0, 1, 2, 3, 4, 5, 6, 7, 8, 10]), Zq⟩
  refine Wo 16 rfl rfl ?_;obtain ⟨y284, hy285, h⟩ := Ux h;refine Jv (Vb hy285 sd) ?_
  refine Q3n (c := Q0.cells) (e := 3) (fun _ => rfl) hy285 (off := 0) (by decide) (by first | omega | (simp only [Q05, orI, Qa5, Wn, Q10, Q46]; omega)) ?_
  obtain ⟨y286, hy287, h⟩ := Ux h;refine Jv (Vb hy287 sd) ?_
  refine Q7s (c := Q0.cells) (e := 3) (n := 1) (fun _ => rfl) hy287 (off := 1) (by decide) (by first | omega | (simp only [Q05, orI, Qa5, Wn, Q10, Q46]; omega)) ?_
  obtain ⟨y288, hy289, h⟩ := Ux h;refine Jv (Vb hy289 sd) ?_
  refine Qbf (c := Q0.cells) (e := 3) (n := 1) (fun _ => rfl) hy289 (off := 2) (by decide) (by first | omega | (simp only [Q05, orI, Qa5, Wn, Q10, Q46]; omega)) ?_
  refine cRg h Q17 (b := 9) rfl p3 fun v290 h => ?_;refine Qi ?_;obtain ⟨y292, hy293, h⟩ := Ux h;refine Jv (Vb hy293 sd) ?_
  refine Q3n (c := Q0.cells) (e := 3) (fun _ => rfl) hy293 (off := 0) (by decide) (by first | omega | (simp only [Q05, orI, Qa5, Wn, Q10, Q46]; omega)) ?_
  obtain ⟨y294, hy295, h⟩ := Ux h;refine Jv (Vb hy295 sd) ?_
  refine Q7s (c := Q0.cells) (e := 3) (n := 1) (fun _ => rfl) hy295 (off := 1) (by decide) (by first | omega | (simp only [Q05, orI, Qa5, Wn, Q10, Q46]; omega)) ?_
  obtain ⟨y296, hy297, h⟩ := Ux h;refine Jv (Vb hy297 sd) ?_
  refine Qbf (c := Q0.cells) (e := 3) (n := 1) (fun _ => rfl) hy297 (off := 2) (by decide) (by first | omega | (simp only [Q05, orI, Qa5, Wn, Q10, Q46]; omega)) ?_
  refine dM h Xx rfl p3 fun v298 h => ?_;show Exists _;exact ⟨(n2, (wrap .i64 (i255 + 1)), v298.2.L, v290.2), h, Lg _, (rho [0, 1, 2, 3, 4, 5, 6, 7, 8, 10]), Zq⟩
 refine cRg h Q1d (b := 4) rfl (.cons (.p _) (.cons (Frz.agg' (f8_ (f2_ (f1_ (.cons (.p _) p5))))) .nil)) fun v300 h => ?_;refine cRg h Q1d (b := 9) rfl (.cons (.p _) (.cons (Frz.agg' (f8_ (f2_ (f1_ (.cons (.p _) p5))))) .nil)) fun v302 h => ?_;refine cP h Jf (.cons (Frz.agg' (Q40 (Q40 (Q40 (f2_ (f1_ (.cons (.p _) p5))))))) (.cons (Frz.agg' (Q40 (Q40 (Q40 (f2_ (f1_ (.cons (.p _) p5))))))) .nil)) fun v304 h => ?_;refine iL h fun h => ?_;refine iL h fun h => ?_;refine iL h fun h => ?_;refine iL h fun h => ?_;refine cRg h Q1d (b := 10) rfl (.cons (.p _) (.cons (Frz.agg' (f8_ (f2_ (f1_ (.cons (.p _) p5))))) .nil)) fun v310 h => ?_;refine cP h Q2b p1 fun v312 h => ?_;refine cP h Jf (.cons (Frz.agg' (Q40 (Q40 (Q40 (f2_ (f1_ (.cons (.p _) p5))))))) (.cons (Frz.agg' (Q40 (Q40 (Q40 (f2_ (f1_ (.cons (.p _) p5))))))) .nil)) fun v314 h => ?_;refine iR h fun h => ?_;refine iR h fun h => ?_;refine iL h fun h => ?_;exact iB h
end
end
end Go.Av
