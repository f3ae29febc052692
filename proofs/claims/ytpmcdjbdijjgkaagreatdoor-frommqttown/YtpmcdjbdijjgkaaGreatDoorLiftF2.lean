/- Part of the proof of FrommqttOwn: for every input the law returns true; no condition. -/
import Derived.Test.YtpmcdjbdijjgkaaGreatDoorLiftF1
open Go.IntKind (wrap)
namespace Go.Av
noncomputable section
open Go.Proofs
set_option maxRecDepth 100000
set_option maxHeartbeats 4000000
attribute [local irreducible] Wc Yz Q80 Qcj Qmw Qmb Qda
section
def W9 (N : Nat) (version : Int) (p : Q3) : Option (Yn × Int) :=
 (Gf N version).bind fun v1 =>
 cond (!v1.2)
 (some ((⟨0, 0, [], [], 0, false, false, 0, [], 0, [], 0, (⟨0, false, false, 0, 0, [], [], false, 0, [], false, [], false, [], false, (⟨[], [], 0, false, []⟩ : Xe), false, 0, [], [], []⟩ : Q3), (⟨0, (⟨false, 0, false, false, false, 0⟩ : Q3p), 0, 0, 0, false, 0, 0, 0, [], []⟩ : Qfx), (⟨0, 0, [], []⟩ : Vz)⟩ : Yn), 2))
 ((Ge N version p).bind fun v4 =>
 cond (Q7 .neq v4 0)
 (some ((⟨0, 0, [], [], 0, false, false, 0, [], 0, [], 0, (⟨0, false, false, 0, 0, [], [], false, 0, [], false, [], false, [], false, (⟨[], [], 0, false, []⟩ : Xe), false, 0, [], [], []⟩ : Q3), (⟨0, (⟨false, 0, false, false, false, 0⟩ : Q3p), 0, 0, 0, false, 0, 0, 0, [], []⟩ : Qfx), (⟨0, 0, [], []⟩ : Vz)⟩ : Yn), v4))
 (cond (Q7 .eql p.Kind 3)
 (cond (Gp .eql p.Topic [])
 (some ((⟨0, 0, [], [], 0, false, false, 0, [], 0, [], 0, (⟨0, false, false, 0, 0, [], [], false, 0, [], false, [], false, [], false, (⟨[], [], 0, false, []⟩ : Xe), false, 0, [], [], []⟩ : Q3), (⟨0, (⟨false, 0, false, false, false, 0⟩ : Q3p), 0, 0, 0, false, 0, 0, 0, [], []⟩ : Qfx), (⟨0, 0, [], []⟩ : Vz)⟩ : Yn), 11))
 ((Xl N v1.1 p).bind fun v9 =>
 (Vw N v9).bind fun v11 =>
 some (v11, 0)))
 ((Wd N v1.1 p).bind fun v13 =>
 (Vw N v13).bind fun v15 =>
 some (v15, 0))))
theorem Q7b {N} {version} {p} {r} (h : W9 N version p = some r) : pU 7 [.int .i64 version, .agg (Q3.cells p)] (.tuple [.agg (Yn.cells r.1), .int .i64 r.2]) := by
 refine Q0 k7 ?_;unfold W9 at h;rw [cX, cY] at h;refine cP h Q0a p1 fun v1 h => ?_;apply iU h <;> intro h
 ·obtain rfl := Qo h; exact (Frz.tuple' (.cons (Frz.agg' (f8_ (.cons (.nil _) (.cons (.p _) (.cons (.nil _) (Y5 (f4_ (.cons (.nil _) (f2_ (.cons (.nil _) (.cons (.nil _) (.cons (.nil _) (Y5 (f2_ (f1_ (.cons (.nil _) .nil)))))))))))))))) p1))
 refine cP h Q2r (.cons (.p _) (.cons (Frz.agg' (Y5 (f2_ (f1_ (.cons (.p _) p5))))) .nil)) fun v4 h => ?_;apply iU h <;> intro h
 ·obtain rfl := Qo h; exact (Frz.tuple' (.cons (Frz.agg' (f8_ (.cons (.nil _) (.cons (.p _) (.cons (.nil _) (Y5 (f4_ (.cons (.nil _) (f2_ (.cons (.nil _) (.cons (.nil _) (.cons (.nil _) (Y5 (f2_ (f1_ (.cons (.nil _) .nil)))))))))))))))) p1))
 apply iU h <;> intro h
 ·apply iU h <;> intro h
  ·obtain rfl := Qo h; exact (Frz.tuple' (.cons (Frz.agg' (f8_ (.cons (.nil _) (.cons (.p _) (.cons (.nil _) (Y5 (f4_ (.cons (.nil _) (f2_ (.cons (.nil _) (.cons (.nil _) (.cons (.nil _) (Y5 (f2_ (f1_ (.cons (.nil _) .nil)))))))))))))))) p1))
  refine cP h U4 (.cons (.p _) (.cons (Frz.agg' (Y5 (f2_ (f1_ (.cons (.p _) p5))))) .nil)) fun v9 h => ?_;refine cO h Uo (fun v11 => .agg (Q5d v11 (.slice 4 2 0 v11.Props.length) (.slice 2 3 0 v11.Hops.length) (.slice 4 4 0 v11.Packet.Will.Props.length) (.slice 1 5 0 v11.Packet.Codes.length) (.slice 5 6 0 v11.Packet.Filters.length) (.slice 4 7 0 v11.Packet.Props.length) (.slice 4 8 0 v11.Frame.Values.length))) (rE rfl <| rN) fun v11 h => ?_;obtain rfl := Qo h; exact (Frz.tuple' (.cons (Frz.agg' (f8_ (.cons (frz_own (c := Q1.cells) (l := (v11.Props : List Q1)) (fun _ => rfl) rfl trivial sd) (.cons (.p _) (.cons (frz_own (c := Q1g.cells) (l := (v11.Hops : List Q1g)) (fun _ => rfl) rfl trivial sd) (Y5 (f4_ (.cons (frz_own (c := Q1.cells) (l := (v11.Packet.Will.Props : List Q1)) (fun _ => rfl) rfl trivial sd) (f2_ (.cons (frz_own (c := (cI .i64)) (l := (v11.Packet.Codes : List Int)) (fun _ => rfl) rfl trivial sd) (.cons (frz_own (c := Q2.cells) (l := (v11.Packet.Filters : List Q2)) (fun _ => rfl) rfl trivial sd) (.cons (frz_own (c := Q1.cells) (l := (v11.Packet.Props : List Q1)) (fun _ => rfl) rfl trivial sd) (Y5 (f2_ (f1_ (.cons (Q5.frz_own (l := v11.Frame.Values) rfl trivial sd) .nil)))))))))))))))) p1))
 refine cP h J3 (.cons (.p _) (.cons (Frz.agg' (Y5 (f2_ (f1_ (.cons (.p _) p5))))) .nil)) fun v13 h => ?_;refine cO h Uo (fun v15 => .agg (Q5d v15 (.slice 4 2 0 v15.Props.length) (.slice 2 3 0 v15.Hops.length) (.slice 4 4 0 v15.Packet.Will.Props.length) (.slice 1 5 0 v15.Packet.Codes.length) (.slice 5 6 0 v15.Packet.Filters.length) (.slice 4 7 0 v15.Packet.Props.length) (.slice 4 8 0 v15.Frame.Values.length))) (rE rfl <| rN) fun v15 h => ?_;obtain rfl := Qo h; exact (Frz.tuple' (.cons (Frz.agg' (f8_ (.cons (frz_own (c := Q1.cells) (l := (v15.Props : List Q1)) (fun _ => rfl) rfl trivial sd) (.cons (.p _) (.cons (frz_own (c := Q1g.cells) (l := (v15.Hops : List Q1g)) (fun _ => rfl) rfl trivial sd) (Y5 (f4_ (.cons (frz_own (c := Q1.cells) (l := (v15.Packet.Will.Props : List Q1)) (fun _ => rfl) rfl trivial sd) (f2_ (.cons (frz_own (c := (cI .i64)) (l := (v15.Packet.Codes : List Int)) (fun _ => rfl) rfl trivial sd) (.cons (frz_own (c := Q2.cells) (l := (v15.Packet.Filters : List Q2)) (fun _ => rfl) rfl trivial sd) (.cons (frz_own (c := Q1.cells) (l := (v15.Packet.Props : List Q1)) (fun _ => rfl) rfl trivial sd) (Y5 (f2_ (f1_ (.cons (Q5.frz_own (l := v15.Frame.Values) rfl trivial sd) .nil)))))))))))))))) p1))
theorem Q6f {N} {version} {p} {r} (h : W9 N version p = some r) : gU 7 (.p (.int .i64 version) :: .p (.agg (Q3.cells p)) :: []) [] (.tuple [.agg (Qga r.1 (.slice 4 0 0 r.1.Props.length) (.slice 2 1 0 r.1.Hops.length) (.slice 4 2 0 r.1.Packet.Will.Props.length) (.slice 1 3 0 r.1.Packet.Codes.length) (.slice 5 4 0 r.1.Packet.Filters.length) (.slice 4 5 0 r.1.Packet.Props.length) (.slice 4 6 0 r.1.Frame.Values.length)), .p (.int .i64 r.2)]) (.cells (Y4 Q1.cells r.1.Props) :: .cells (Y4 Q1g.cells r.1.Hops) :: .cells (Y4 Q1.cells r.1.Packet.Will.Props) :: .cells (Y4 (cI .i64) r.1.Packet.Codes) :: .cells (Y4 Q2.cells r.1.Packet.Filters) :: .cells (Y4 Q1.cells r.1.Packet.Props) :: .cells (Y4 Q5.cells r.1.Frame.Values) :: []) := by
 refine Ww k7 (Lp rfl) ?_;unfold W9 at h;rw [cX, cY] at h;refine cP h Q0a p1 fun v1 h => ?_;apply iU h <;> intro h
 ·obtain rfl := Qo h;show Exists _;exact ⟨(rho [2, 3, 4, 5, 6, 7, 8]), ⟨(rT (rG (rE rfl <| rE rfl <| rE rfl <| rE rfl <| rE rfl <| rE rfl <| rE rfl <| rE rfl <| rS <| rE rfl <| rS <| rE rfl <| rE rfl <| rE rfl <| rE rfl <| rE rfl <| rE rfl <| rE rfl <| rE rfl <| rE rfl <| rE rfl <| rE rfl <| rE rfl <| rE rfl <| rE rfl <| rE rfl <| rE rfl <| rE rfl <| rE rfl <| rE rfl <| rE rfl <| rS <| rE rfl <| rE rfl <| rS <| rS <| rS <| rE rfl <| rE rfl <| rE rfl <| rE rfl <| rE rfl <| rE rfl <| rE rfl <| rE rfl <| rE rfl <| rE rfl <| rE rfl <| rE rfl <| rE rfl <| rE rfl <| rE rfl <| rE rfl <| rE rfl <| rE rfl <| rE rfl <| rS <| rN) <| rE rfl <| rN) <| rN), (hV lb <| hV lb <| hV lb <| hV lb <| hV lb <| hV lb <| hV lb <| hN), rfl, rfl, (roE (Qd _ _ _) <| roE (Qd _ _ _) <| roE (Qd _ _ _) <| roE (Qd _ _ _) <| roE (Qd _ _ _) <| roE (Qd _ _ _) <| roE (Qd _ _ _) <| roN)⟩⟩
 refine cP h Q2r (.cons (.p _) (.cons (Frz.agg' (Y5 (f2_ (f1_ (.cons (.p _) p5))))) .nil)) fun v4 h => ?_;apply iU h <;> intro h
 ·obtain rfl := Qo h;show Exists _;exact ⟨(rho [2, 3, 4, 5, 6, 7, 8]), ⟨(rT (rG (rE rfl <| rE rfl <| rE rfl <| rE rfl <| rE rfl <| rE rfl <| rE rfl <| rE rfl <| rS <| rE rfl <| rS <| rE rfl <| rE rfl <| rE rfl <| rE rfl <| rE rfl <| rE rfl <| rE rfl <| rE rfl <| rE rfl <| rE rfl <| rE rfl <| rE rfl <| rE rfl <| rE rfl <| rE rfl <| rE rfl <| rE rfl <| rE rfl <| rE rfl <| rE rfl <| rS <| rE rfl <| rE rfl <| rS <| rS <| rS <| rE rfl <| rE rfl <| rE rfl <| rE rfl <| rE rfl <| rE rfl <| rE rfl <| rE rfl <| rE rfl <| rE rfl <| rE rfl <| rE rfl <| rE rfl <| rE rfl <| rE rfl <| rE rfl <| rE rfl <| rE rfl <| rE rfl <| rS <| rN) <| rE rfl <| rN) <| rN), (hV lb <| hV lb <| hV lb <| hV lb <| hV lb <| hV lb <| hV lb <| hN), rfl, rfl, (roE (Qd _ _ _) <| roE (Qd _ _ _) <| roE (Qd _ _ _) <| roE (Qd _ _ _) <| roE (Qd _ _ _) <| roE (Qd _ _ _) <| roE (Qd _ _ _) <| roN)⟩⟩
 apply iU h <;> intro h
 ·apply iU h <;> intro h
  ·obtain rfl := Qo h;show Exists _;exact ⟨(rho [2, 3, 4, 5, 6, 7, 8]), ⟨(rT (rG (rE rfl <| rE rfl <| rE rfl <| rE rfl <| rE rfl <| rE rfl <| rE rfl <| rE rfl <| rS <| rE rfl <| rS <| rE rfl <| rE rfl <| rE rfl <| rE rfl <| rE rfl <| rE rfl <| rE rfl <| rE rfl <| rE rfl <| rE rfl <| rE rfl <| rE rfl <| rE rfl <| rE rfl <| rE rfl <| rE rfl <| rE rfl <| rE rfl <| rE rfl <| rE rfl <| rS <| rE rfl <| rE rfl <| rS <| rS <| rS <| rE rfl <| rE rfl <| rE rfl <| rE rfl <| rE rfl <| rE rfl <| rE rfl <| rE rfl <| rE rfl <| rE rfl <| rE rfl <| rE rfl <| rE rfl <| rE rfl <| rE rfl <| rE rfl <| rE rfl <| rE rfl <| rE rfl <| rS <| rN) <| rE rfl <| rN) <| rN), (hV lb <| hV lb <| hV lb <| hV lb <| hV lb <| hV lb <| hV lb <| hN), rfl, rfl, (roE (Qd _ _ _) <| roE (Qd _ _ _) <| roE (Qd _ _ _) <| roE (Qd _ _ _) <| roE (Qd _ _ _) <| roE (Qd _ _ _) <| roE (Qd _ _ _) <| roN)⟩⟩
  refine cP h U4 (.cons (.p _) (.cons (Frz.agg' (Y5 (f2_ (f1_ (.cons (.p _) p5))))) .nil)) fun v9 h => ?_;refine cO h Uo (fun v11 => .agg (Q5d v11 (.slice 4 2 0 v11.Props.length) (.slice 2 3 0 v11.Hops.length) (.slice 4 4 0 v11.Packet.Will.Props.length) (.slice 1 5 0 v11.Packet.Codes.length) (.slice 5 6 0 v11.Packet.Filters.length) (.slice 4 7 0 v11.Packet.Props.length) (.slice 4 8 0 v11.Frame.Values.length))) (rE rfl <| rN) fun v11 h => ?_;obtain rfl := Qo h;show Exists _;exact ⟨(rho [2, 3, 4, 5, 6, 7, 8]), ⟨(rT (rG (rE rfl <| rE rfl <| rE rfl <| rE rfl <| rE rfl <| rE rfl <| rE rfl <| rE rfl <| rE rfl <| rE rfl <| rE rfl <| rE rfl <| rE rfl <| rE rfl <| rE rfl <| rE rfl <| rE rfl <| rE rfl <| rE rfl <| rE rfl <| rE rfl <| rE rfl <| rE rfl <| rE rfl <| rE rfl <| rE rfl <| rE rfl <| rE rfl <| rE rfl <| rE rfl <| rE rfl <| rE rfl <| rE rfl <| rE rfl <| rE rfl <| rE rfl <| rE rfl <| rE rfl <| rE rfl <| rE rfl <| rE rfl <| rE rfl <| rE rfl <| rE rfl <| rE rfl <| rE rfl <| rE rfl <| rE rfl <| rE rfl <| rE rfl <| rE rfl <| rE rfl <| rE rfl <| rE rfl <| rE rfl <| rE rfl <| rE rfl <| rN) <| rE rfl <| rN) <| rN), (hO rfl <| hO rfl <| hO rfl <| hO rfl <| hO rfl <| hO rfl <| hO rfl <| hN), rfl, rfl, (roE (Qd _ _ _) <| roE (Qd _ _ _) <| roE (Qd _ _ _) <| roE (Qd _ _ _) <| roE (Qd _ _ _) <| roE (Qd _ _ _) <| roE (Qd _ _ _) <| roN)⟩⟩
 refine cP h J3 (.cons (.p _) (.cons (Frz.agg' (Y5 (f2_ (f1_ (.cons (.p _) p5))))) .nil)) fun v13 h => ?_;refine cO h Uo (fun v15 => .agg (Q5d v15 (.slice 4 2 0 v15.Props.length) (.slice 2 3 0 v15.Hops.length) (.slice 4 4 0 v15.Packet.Will.Props.length) (.slice 1 5 0 v15.Packet.Codes.length) (.slice 5 6 0 v15.Packet.Filters.length) (.slice 4 7 0 v15.Packet.Props.length) (.slice 4 8 0 v15.Frame.Values.length))) (rE rfl <| rN) fun v15 h => ?_;obtain rfl := Qo h;show Exists _;exact ⟨(rho [2, 3, 4, 5, 6, 7, 8]), ⟨(rT (rG (rE rfl <| rE rfl <| rE rfl <| rE rfl <| rE rfl <| rE rfl <| rE rfl <| rE rfl <| rE rfl <| rE rfl <| rE rfl <| rE rfl <| rE rfl <| rE rfl <| rE rfl <| rE rfl <| rE rfl <| rE rfl <| rE rfl <| rE rfl <| rE rfl <| rE rfl <| rE rfl <| rE rfl <| rE rfl <| rE rfl <| rE rfl <| rE rfl <| rE rfl <| rE rfl <| rE rfl <| rE rfl <| rE rfl <| rE rfl <| rE rfl <| rE rfl <| rE rfl <| rE rfl <| rE rfl <| rE rfl <| rE rfl <| rE rfl <| rE rfl <| rE rfl <| rE rfl <| rE rfl <| rE rfl <| rE rfl <| rE rfl <| rE rfl <| rE rfl <| rE rfl <| rE rfl <| rE rfl <| rE rfl <| rE rfl <| rE rfl <| rN) <| rE rfl <| rN) <| rN), (hO rfl <| hO rfl <| hO rfl <| hO rfl <| hO rfl <| hO rfl <| hO rfl <| hN), rfl, rfl, (roE (Qd _ _ _) <| roE (Qd _ _ _) <| roE (Qd _ _ _) <| roE (Qd _ _ _) <| roE (Qd _ _ _) <| roE (Qd _ _ _) <| roE (Qd _ _ _) <| roN)⟩⟩
def Wa (N : Nat) : Option Bool :=
 (Je N).bind fun v1 =>
 (W9 N 4 v1).bind fun v3 =>
 cond (Q7 .eql v3.2 0)
 (cond (Q7 .eql v3.1.Proto 1)
 (cond (Q7 .eql v3.1.Kind 1)
 (cond (Gp .eql v3.1.Topic [97, 47, 98])
 (some (Gp .eql v3.1.Payload [104, 105]))
 (some false))
 (some false))
 (some false))
 (some false)
theorem Q1c {N} {r} (h : Wa N = some r) : pU 4 [] (.bool r) := by
 refine Q0 k4 ?_;unfold Wa at h;rw [cX, cY] at h;refine cP h Q2f p0 fun v1 h => ?_;refine cP h Q7b p2 fun v3 h => ?_;refine iR h fun h => ?_;refine iR h fun h => ?_;refine iR h fun h => ?_;exact iB h
def Qz (N : Nat) (l : List Q1) : Nat → Int → Option Bool
 | 0, _ => none
 | n + 1, i17 =>
  cond (Q7 .lss i17 ((Q6 Q1.cells l).length : Int))
  ((idx l i17).bind fun y19 =>
  cond (Q7 .gtr (y19.Text.length : Int) 300)
  (some false)
  ((idx l i17).bind fun y22 =>
  cond (Q7 .gtr (y22.Value.length : Int) 300)
  (some false)
  (Qz N l n (wrap .i64 (i17 + 1)))))
  (some (Q7 .leq ((Q6 Q1.cells l).length : Int) 30))
def Qv (N : Nat) (l : List Q1) : Option Bool :=
 Qz N l N 0
theorem Yh {N} {l} {r} (h : Qv N l = some r) : pU 11 [.slice 4 (Q6 Q1.cells l)] (.bool r) := by
 refine Q0 k11 ?_;unfold Qv at h;refine lpH (τ := Int) (fun i17 => (.p (.slice 4 (Q6 Q1.cells l)) :: .any :: .any :: iI i17 :: a16 (a8 (.any :: [])) : List AV)) (fun n0 i17 => Qz N l n0 i17) (0) h fun n0 i17 h => ?_
 first | rw [Qz] at h | simp only [Qz] at h
 rw [cX] at h;refine iR h fun h => ?_;refine xR h fun y19 h => ?_;refine iL h fun h => ?_;refine xR h fun y22 h => ?_;refine iL h fun h => ?_;show Exists _;exact ⟨(n0, (wrap .i64 (i17 + 1))), h, Lg _, (fun i => i), Vf⟩
def Qy (N : Nat) (p : Q3) : Nat → Int → Option Bool
 | 0, _ => none
 | n + 1, i11 =>
  cond (Q7 .lss i11 ((Q6 Q2.cells p.Filters).length : Int))
  (cond (Q7 .lss i11 31)
  ((idx p.Filters i11).bind fun y14 =>
  cond (Q7 .gtr (y14.Topic.length : Int) 2000)
  (some false)
  (Qy N p n (wrap .i64 (i11 + 1))))
  (cond (Q7 .leq (p.Topic.length : Int) 2000)
  (cond (Q7 .leq (p.Payload.length : Int) 2000)
  (cond (Q7 .leq (p.Client.length : Int) 2000)
  (cond (Q7 .leq (p.User.length : Int) 2000)
  (cond (Q7 .leq (p.Pass.length : Int) 2000)
  (cond (Q7 .leq (p.Will.Topic.length : Int) 2000)
  (cond (Q7 .leq (p.Will.Payload.length : Int) 2000)
  (cond (Q7 .leq ((Q6 (cI .i64) p.Codes).length : Int) 30)
  (cond (Q7 .leq ((Q6 Q2.cells p.Filters).length : Int) 30)
  ((Qv N p.Props).bind fun v26 =>
  cond v26
  ((Qv N p.Will.Props).bind fun v29 =>
  some v29)
  (some false))
  (some false))
  (some false))
  (some false))
  (some false))
  (some false))
  (some false))
  (some false))
  (some false))
  (some false)))
  (cond (Q7 .leq (p.Topic.length : Int) 2000)
  (cond (Q7 .leq (p.Payload.length : Int) 2000)
  (cond (Q7 .leq (p.Client.length : Int) 2000)
  (cond (Q7 .leq (p.User.length : Int) 2000)
  (cond (Q7 .leq (p.Pass.length : Int) 2000)
  (cond (Q7 .leq (p.Will.Topic.length : Int) 2000)
  (cond (Q7 .leq (p.Will.Payload.length : Int) 2000)
  (cond (Q7 .leq ((Q6 (cI .i64) p.Codes).length : Int) 30)
  (cond (Q7 .leq ((Q6 Q2.cells p.Filters).length : Int) 30)
  ((Qv N p.Props).bind fun v40 =>
  cond v40
  ((Qv N p.Will.Props).bind fun v43 =>
  some v43)
  (some false))
  (some false))
  (some false))
  (some false))
  (some false))
  (some false))
  (some false))
  (some false))
  (some false))
  (some false))
def X5 (N : Nat) (p : Q3) : Option Bool :=
 Qy N p N 0
theorem Gv {N} {p} {r} (h : X5 N p = some r) : pU 5 [.agg (Q3.cells p)] (.bool r) := by
 refine Q0 k5 ?_;unfold X5 at h;refine lpH (τ := Int) (fun i11 => (.any :: .ptr 0 0 :: .any :: iI i11 :: a16 (a16 (a16 (a16 (a16 (a4 ([])))))) : List AV)) (fun n0 i11 => Qy N p n0 i11) (0) h fun n0 i11 h => ?_
 first | rw [Qy] at h | simp only [Qy] at h
 rw [cX] at h;apply iU h <;> intro h
 ·apply iU h <;> intro h
  ·refine xR h fun y14 h => ?_;refine iL h fun h => ?_;show Exists _;exact ⟨(n0, (wrap .i64 (i11 + 1))), h, Lg _, (fun i => i), Vf⟩
  refine iR h fun h => ?_;refine iR h fun h => ?_;refine iR h fun h => ?_;refine iR h fun h => ?_;refine iR h fun h => ?_;refine iR h fun h => ?_;refine iR h fun h => ?_;refine iR h fun h => ?_;refine iR h fun h => ?_;refine cP h Yh p1 fun v26 h => ?_;refine iR h fun h => ?_;refine cP h Yh p1 fun v29 h => ?_;cases h; exact (.p _)
 refine iR h fun h => ?_;refine iR h fun h => ?_;refine iR h fun h => ?_;refine iR h fun h => ?_;refine iR h fun h => ?_;refine iR h fun h => ?_;refine iR h fun h => ?_;refine iR h fun h => ?_;refine iR h fun h => ?_;refine cP h Yh p1 fun v40 h => ?_;refine iR h fun h => ?_;refine cP h Yh p1 fun v43 h => ?_;cases h; exact (.p _)
def Xi (_N : Nat) (p : Q3) : Option (Q3) :=
 cond (Nat.beq (Q6 (cI .i64) p.Codes).length 0)
 (cond (Nat.beq (Q6 Q2.cells p.Filters).length 0)
 (cond (Nat.beq (Q6 Q1.cells p.Props).length 0)
 (cond (Nat.beq (Q6 Q1.cells p.Will.Props).length 0)
 (some (⟨p.Kind, p.Dup, p.Retain, p.QoS, p.ID, p.Topic, p.Payload, p.Clean, p.KeepAlive, p.Client, p.HasUser, p.User, p.HasPass, p.Pass, p.HasWill, (⟨p.Will.Topic, p.Will.Payload, p.Will.QoS, p.Will.Retain, []⟩ : Xe), p.Session, p.Code, [], [], []⟩ : Q3))
 (cond (Nat.ble ((0 + (Q6 Q1.cells p.Will.Props).length + 4096) * 48) 17592186044416) (some (⟨p.Kind, p.Dup, p.Retain, p.QoS, p.ID, p.Topic, p.Payload, p.Clean, p.KeepAlive, p.Client, p.HasUser, p.User, p.HasPass, p.Pass, p.HasWill, (⟨p.Will.Topic, p.Will.Payload, p.Will.QoS, p.Will.Retain, (([] : List Q1) ++ p.Will.Props)⟩ : Xe), p.Session, p.Code, [], [], []⟩ : Q3)) none))
 (cond (Nat.ble ((0 + (Q6 Q1.cells p.Props).length + 4096) * 48) 17592186044416) (cond (Nat.beq (Q6 Q1.cells p.Will.Props).length 0)
 (some (⟨p.Kind, p.Dup, p.Retain, p.QoS, p.ID, p.Topic, p.Payload, p.Clean, p.KeepAlive, p.Client, p.HasUser, p.User, p.HasPass, p.Pass, p.HasWill, (⟨p.Will.Topic, p.Will.Payload, p.Will.QoS, p.Will.Retain, []⟩ : Xe), p.Session, p.Code, [], [], (([] : List Q1) ++ p.Props)⟩ : Q3))
 (cond (Nat.ble ((0 + (Q6 Q1.cells p.Will.Props).length + 4096) * 48) 17592186044416) (some (⟨p.Kind, p.Dup, p.Retain, p.QoS, p.ID, p.Topic, p.Payload, p.Clean, p.KeepAlive, p.Client, p.HasUser, p.User, p.HasPass, p.Pass, p.HasWill, (⟨p.Will.Topic, p.Will.Payload, p.Will.QoS, p.Will.Retain, (([] : List Q1) ++ p.Will.Props)⟩ : Xe), p.Session, p.Code, [], [], (([] : List Q1) ++ p.Props)⟩ : Q3)) none)) none))
 (cond (Nat.ble ((0 + (Q6 Q2.cells p.Filters).length + 4096) * 40) 17592186044416) (cond (Nat.beq (Q6 Q1.cells p.Props).length 0)
 (cond (Nat.beq (Q6 Q1.cells p.Will.Props).length 0)
 (some (⟨p.Kind, p.Dup, p.Retain, p.QoS, p.ID, p.Topic, p.Payload, p.Clean, p.KeepAlive, p.Client, p.HasUser, p.User, p.HasPass, p.Pass, p.HasWill, (⟨p.Will.Topic, p.Will.Payload, p.Will.QoS, p.Will.Retain, []⟩ : Xe), p.Session, p.Code, [], (([] : List Q2) ++ p.Filters), []⟩ : Q3))
 (cond (Nat.ble ((0 + (Q6 Q1.cells p.Will.Props).length + 4096) * 48) 17592186044416) (some (⟨p.Kind, p.Dup, p.Retain, p.QoS, p.ID, p.Topic, p.Payload, p.Clean, p.KeepAlive, p.Client, p.HasUser, p.User, p.HasPass, p.Pass, p.HasWill, (⟨p.Will.Topic, p.Will.Payload, p.Will.QoS, p.Will.Retain, (([] : List Q1) ++ p.Will.Props)⟩ : Xe), p.Session, p.Code, [], (([] : List Q2) ++ p.Filters), []⟩ : Q3)) none))
 (cond (Nat.ble ((0 + (Q6 Q1.cells p.Props).length + 4096) * 48) 17592186044416) (cond (Nat.beq (Q6 Q1.cells p.Will.Props).length 0)
 (some (⟨p.Kind, p.Dup, p.Retain, p.QoS, p.ID, p.Topic, p.Payload, p.Clean, p.KeepAlive, p.Client, p.HasUser, p.User, p.HasPass, p.Pass, p.HasWill, (⟨p.Will.Topic, p.Will.Payload, p.Will.QoS, p.Will.Retain, []⟩ : Xe), p.Session, p.Code, [], (([] : List Q2) ++ p.Filters), (([] : List Q1) ++ p.Props)⟩ : Q3))
 (cond (Nat.ble ((0 + (Q6 Q1.cells p.Will.Props).length + 4096) * 48) 17592186044416) (some (⟨p.Kind, p.Dup, p.Retain, p.QoS, p.ID, p.Topic, p.Payload, p.Clean, p.KeepAlive, p.Client, p.HasUser, p.User, p.HasPass, p.Pass, p.HasWill, (⟨p.Will.Topic, p.Will.Payload, p.Will.QoS, p.Will.Retain, (([] : List Q1) ++ p.Will.Props)⟩ : Xe), p.Session, p.Code, [], (([] : List Q2) ++ p.Filters), (([] : List Q1) ++ p.Props)⟩ : Q3)) none)) none)) none))
 (cond (Nat.ble ((0 + (Q6 (cI .i64) p.Codes).length + 4096) * 8) 17592186044416) (cond (Nat.beq (Q6 Q2.cells p.Filters).length 0)
 (cond (Nat.beq (Q6 Q1.cells p.Props).length 0)
 (cond (Nat.beq (Q6 Q1.cells p.Will.Props).length 0)
 (some (⟨p.Kind, p.Dup, p.Retain, p.QoS, p.ID, p.Topic, p.Payload, p.Clean, p.KeepAlive, p.Client, p.HasUser, p.User, p.HasPass, p.Pass, p.HasWill, (⟨p.Will.Topic, p.Will.Payload, p.Will.QoS, p.Will.Retain, []⟩ : Xe), p.Session, p.Code, (([] : List Int) ++ p.Codes), [], []⟩ : Q3))
 (cond (Nat.ble ((0 + (Q6 Q1.cells p.Will.Props).length + 4096) * 48) 17592186044416) (some (⟨p.Kind, p.Dup, p.Retain, p.QoS, p.ID, p.Topic, p.Payload, p.Clean, p.KeepAlive, p.Client, p.HasUser, p.User, p.HasPass, p.Pass, p.HasWill, (⟨p.Will.Topic, p.Will.Payload, p.Will.QoS, p.Will.Retain, (([] : List Q1) ++ p.Will.Props)⟩ : Xe), p.Session, p.Code, (([] : List Int) ++ p.Codes), [], []⟩ : Q3)) none))
 (cond (Nat.ble ((0 + (Q6 Q1.cells p.Props).length + 4096) * 48) 17592186044416) (cond (Nat.beq (Q6 Q1.cells p.Will.Props).length 0)
 (some (⟨p.Kind, p.Dup, p.Retain, p.QoS, p.ID, p.Topic, p.Payload, p.Clean, p.KeepAlive, p.Client, p.HasUser, p.User, p.HasPass, p.Pass, p.HasWill, (⟨p.Will.Topic, p.Will.Payload, p.Will.QoS, p.Will.Retain, []⟩ : Xe), p.Session, p.Code, (([] : List Int) ++ p.Codes), [], (([] : List Q1) ++ p.Props)⟩ : Q3))
 (cond (Nat.ble ((0 + (Q6 Q1.cells p.Will.Props).length + 4096) * 48) 17592186044416) (some (⟨p.Kind, p.Dup, p.Retain, p.QoS, p.ID, p.Topic, p.Payload, p.Clean, p.KeepAlive, p.Client, p.HasUser, p.User, p.HasPass, p.Pass, p.HasWill, (⟨p.Will.Topic, p.Will.Payload, p.Will.QoS, p.Will.Retain, (([] : List Q1) ++ p.Will.Props)⟩ : Xe), p.Session, p.Code, (([] : List Int) ++ p.Codes), [], (([] : List Q1) ++ p.Props)⟩ : Q3)) none)) none))
 (cond (Nat.ble ((0 + (Q6 Q2.cells p.Filters).length + 4096) * 40) 17592186044416) (cond (Nat.beq (Q6 Q1.cells p.Props).length 0)
 (cond (Nat.beq (Q6 Q1.cells p.Will.Props).length 0)
 (some (⟨p.Kind, p.Dup, p.Retain, p.QoS, p.ID, p.Topic, p.Payload, p.Clean, p.KeepAlive, p.Client, p.HasUser, p.User, p.HasPass, p.Pass, p.HasWill, (⟨p.Will.Topic, p.Will.Payload, p.Will.QoS, p.Will.Retain, []⟩ : Xe), p.Session, p.Code, (([] : List Int) ++ p.Codes), (([] : List Q2) ++ p.Filters), []⟩ : Q3))
 (cond (Nat.ble ((0 + (Q6 Q1.cells p.Will.Props).length + 4096) * 48) 17592186044416) (some (⟨p.Kind, p.Dup, p.Retain, p.QoS, p.ID, p.Topic, p.Payload, p.Clean, p.KeepAlive, p.Client, p.HasUser, p.User, p.HasPass, p.Pass, p.HasWill, (⟨p.Will.Topic, p.Will.Payload, p.Will.QoS, p.Will.Retain, (([] : List Q1) ++ p.Will.Props)⟩ : Xe), p.Session, p.Code, (([] : List Int) ++ p.Codes), (([] : List Q2) ++ p.Filters), []⟩ : Q3)) none))
 (cond (Nat.ble ((0 + (Q6 Q1.cells p.Props).length + 4096) * 48) 17592186044416) (cond (Nat.beq (Q6 Q1.cells p.Will.Props).length 0)
 (some (⟨p.Kind, p.Dup, p.Retain, p.QoS, p.ID, p.Topic, p.Payload, p.Clean, p.KeepAlive, p.Client, p.HasUser, p.User, p.HasPass, p.Pass, p.HasWill, (⟨p.Will.Topic, p.Will.Payload, p.Will.QoS, p.Will.Retain, []⟩ : Xe), p.Session, p.Code, (([] : List Int) ++ p.Codes), (([] : List Q2) ++ p.Filters), (([] : List Q1) ++ p.Props)⟩ : Q3))
 (cond (Nat.ble ((0 + (Q6 Q1.cells p.Will.Props).length + 4096) * 48) 17592186044416) (some (⟨p.Kind, p.Dup, p.Retain, p.QoS, p.ID, p.Topic, p.Payload, p.Clean, p.KeepAlive, p.Client, p.HasUser, p.User, p.HasPass, p.Pass, p.HasWill, (⟨p.Will.Topic, p.Will.Payload, p.Will.QoS, p.Will.Retain, (([] : List Q1) ++ p.Will.Props)⟩ : Xe), p.Session, p.Code, (([] : List Int) ++ p.Codes), (([] : List Q2) ++ p.Filters), (([] : List Q1) ++ p.Props)⟩ : Q3)) none)) none)) none)) none)
theorem Q1p {N} {p} {r} (h : Xi N p = some r) : pU 6 [.agg (Q3.cells p)] (.agg (Q3.cells r)) := by
 refine Q0 k6 ?_;unfold Xi at h;refine Wx (c := (cI .i64)) (vs := p.Codes) rfl ?_;apply iU h <;> intro h
 ·refine Wx (c := Q2.cells) (vs := p.Filters) rfl ?_;apply iU h <;> intro h
  ·refine Wx (c := Q1.cells) (vs := p.Props) rfl ?_;apply iU h <;> intro h
   ·refine Wx (c := Q1.cells) (vs := p.Will.Props) rfl ?_;apply iU h <;> intro h
    ·obtain rfl := Qo h; exact (Frz.agg' (Y5 (f2_ (f1_ (.cons (frz_own (c := Q1.cells) (l := ([] : List Q1)) (fun _ => rfl) rfl trivial sd) (f2_ (.cons (frz_own (c := (cI .i64)) (l := ([] : List Int)) (fun _ => rfl) rfl trivial sd) (.cons (frz_own (c := Q2.cells) (l := ([] : List Q2)) (fun _ => rfl) rfl trivial sd) (.cons (frz_own (c := Q1.cells) (l := ([] : List Q1)) (fun _ => rfl) rfl trivial sd) .nil)))))))))
    obtain ⟨hk7, h⟩ := Q12 h;refine Wt (Zn (c := Q1.cells) (e := 4) (l := ([] : List Q1)) (fun _ => rfl) sd hk7) ?_;obtain rfl := Qo h; exact (Frz.agg' (Y5 (f2_ (f1_ (.cons (frz_own (c := Q1.cells) (l := ((([] : List Q1) ++ p.Will.Props) : List Q1)) (fun _ => rfl) rfl trivial sd) (f2_ (.cons (frz_own (c := (cI .i64)) (l := ([] : List Int)) (fun _ => rfl) rfl trivial sd) (.cons (frz_own (c := Q2.cells) (l := ([] : List Q2)) (fun _ => rfl) rfl trivial sd) (.cons (frz_own (c := Q1.cells) (l := ([] : List Q1)) (fun _ => rfl) rfl trivial sd) .nil)))))))))
   obtain ⟨hk5, h⟩ := Q12 h;refine Wt (Zn (c := Q1.cells) (e := 4) (l := ([] : List Q1)) (fun _ => rfl) sd hk5) ?_;refine Wx (c := Q1.cells) (vs := p.Will.Props) rfl ?_;apply iU h <;> intro h
   ·obtain rfl := Qo h; exact (Frz.agg' (Y5 (f2_ (f1_ (.cons (frz_own (c := Q1.cells) (l := ([] : List Q1)) (fun _ => rfl) rfl trivial sd) (f2_ (.cons (frz_own (c := (cI .i64)) (l := ([] : List Int)) (fun _ => rfl) rfl trivial sd) (.cons (frz_own (c := Q2.cells) (l := ([] : List Q2)) (fun _ => rfl) rfl trivial sd) (.cons (frz_own (c := Q1.cells) (l := ((([] : List Q1) ++ p.Props) : List Q1)) (fun _ => rfl) rfl trivial sd) .nil)))))))))
   obtain ⟨hk9, h⟩ := Q12 h;refine Wt (Zn (c := Q1.cells) (e := 4) (l := ([] : List Q1)) (fun _ => rfl) sd hk9) ?_;obtain rfl := Qo h; exact (Frz.agg' (Y5 (f2_ (f1_ (.cons (frz_own (c := Q1.cells) (l := ((([] : List Q1) ++ p.Will.Props) : List Q1)) (fun _ => rfl) rfl trivial sd) (f2_ (.cons (frz_own (c := (cI .i64)) (l := ([] : List Int)) (fun _ => rfl) rfl trivial sd) (.cons (frz_own (c := Q2.cells) (l := ([] : List Q2)) (fun _ => rfl) rfl trivial sd) (.cons (frz_own (c := Q1.cells) (l := ((([] : List Q1) ++ p.Props) : List Q1)) (fun _ => rfl) rfl trivial sd) .nil)))))))))
  obtain ⟨hk3, h⟩ := Q12 h;refine Wt (Zn (c := Q2.cells) (e := 5) (l := ([] : List Q2)) (fun _ => rfl) sd hk3) ?_;refine Wx (c := Q1.cells) (vs := p.Props) rfl ?_;apply iU h <;> intro h
  ·refine Wx (c := Q1.cells) (vs := p.Will.Props) rfl ?_;apply iU h <;> intro h
   ·obtain rfl := Qo h; exact (Frz.agg' (Y5 (f2_ (f1_ (.cons (frz_own (c := Q1.cells) (l := ([] : List Q1)) (fun _ => rfl) rfl trivial sd) (f2_ (.cons (frz_own (c := (cI .i64)) (l := ([] : List Int)) (fun _ => rfl) rfl trivial sd) (.cons (frz_own (c := Q2.cells) (l := ((([] : List Q2) ++ p.Filters) : List Q2)) (fun _ => rfl) rfl trivial sd) (.cons (frz_own (c := Q1.cells) (l := ([] : List Q1)) (fun _ => rfl) rfl trivial sd) .nil)))))))))
   obtain ⟨hk13, h⟩ := Q12 h;refine Wt (Zn (c := Q1.cells) (e := 4) (l := ([] : List Q1)) (fun _ => rfl) sd hk13) ?_;obtain rfl := Qo h; exact (Frz.agg' (Y5 (f2_ (f1_ (.cons (frz_own (c := Q1.cells) (l := ((([] : List Q1) ++ p.Will.Props) : List Q1)) (fun _ => rfl) rfl trivial sd) (f2_ (.cons (frz_own (c := (cI .i64)) (l := ([] : List Int)) (fun _ => rfl) rfl trivial sd) (.cons (frz_own (c := Q2.cells) (l := ((([] : List Q2) ++ p.Filters) : List Q2)) (fun _ => rfl) rfl trivial sd) (.cons (frz_own (c := Q1.cells) (l := ([] : List Q1)) (fun _ => rfl) rfl trivial sd) .nil)))))))))
  obtain ⟨hk11, h⟩ := Q12 h;refine Wt (Zn (c := Q1.cells) (e := 4) (l := ([] : List Q1)) (fun _ => rfl) sd hk11) ?_;refine Wx (c := Q1.cells) (vs := p.Will.Props) rfl ?_;apply iU h <;> intro h
  ·obtain rfl := Qo h; exact (Frz.agg' (Y5 (f2_ (f1_ (.cons (frz_own (c := Q1.cells) (l := ([] : List Q1)) (fun _ => rfl) rfl trivial sd) (f2_ (.cons (frz_own (c := (cI .i64)) (l := ([] : List Int)) (fun _ => rfl) rfl trivial sd) (.cons (frz_own (c := Q2.cells) (l := ((([] : List Q2) ++ p.Filters) : List Q2)) (fun _ => rfl) rfl trivial sd) (.cons (frz_own (c := Q1.cells) (l := ((([] : List Q1) ++ p.Props) : List Q1)) (fun _ => rfl) rfl trivial sd) .nil)))))))))
  obtain ⟨hk15, h⟩ := Q12 h;refine Wt (Zn (c := Q1.cells) (e := 4) (l := ([] : List Q1)) (fun _ => rfl) sd hk15) ?_;obtain rfl := Qo h; exact (Frz.agg' (Y5 (f2_ (f1_ (.cons (frz_own (c := Q1.cells) (l := ((([] : List Q1) ++ p.Will.Props) : List Q1)) (fun _ => rfl) rfl trivial sd) (f2_ (.cons (frz_own (c := (cI .i64)) (l := ([] : List Int)) (fun _ => rfl) rfl trivial sd) (.cons (frz_own (c := Q2.cells) (l := ((([] : List Q2) ++ p.Filters) : List Q2)) (fun _ => rfl) rfl trivial sd) (.cons (frz_own (c := Q1.cells) (l := ((([] : List Q1) ++ p.Props) : List Q1)) (fun _ => rfl) rfl trivial sd) .nil)))))))))
 obtain ⟨hk1, h⟩ := Q12 h;refine Wt (Zn (c := (cI .i64)) (e := 1) (l := ([] : List Int)) (fun _ => rfl) sd hk1) ?_;refine Wx (c := Q2.cells) (vs := p.Filters) rfl ?_;apply iU h <;> intro h
 ·refine Wx (c := Q1.cells) (vs := p.Props) rfl ?_;apply iU h <;> intro h
  ·refine Wx (c := Q1.cells) (vs := p.Will.Props) rfl ?_;apply iU h <;> intro h
   ·obtain rfl := Qo h; exact (Frz.agg' (Y5 (f2_ (f1_ (.cons (frz_own (c := Q1.cells) (l := ([] : List Q1)) (fun _ => rfl) rfl trivial sd) (f2_ (.cons (frz_own (c := (cI .i64)) (l := ((([] : List Int) ++ p.Codes) : List Int)) (fun _ => rfl) rfl trivial sd) (.cons (frz_own (c := Q2.cells) (l := ([] : List Q2)) (fun _ => rfl) rfl trivial sd) (.cons (frz_own (c := Q1.cells) (l := ([] : List Q1)) (fun _ => rfl) rfl trivial sd) .nil)))))))))
   obtain ⟨hk21, h⟩ := Q12 h;refine Wt (Zn (c := Q1.cells) (e := 4) (l := ([] : List Q1)) (fun _ => rfl) sd hk21) ?_;obtain rfl := Qo h; exact (Frz.agg' (Y5 (f2_ (f1_ (.cons (frz_own (c := Q1.cells) (l := ((([] : List Q1) ++ p.Will.Props) : List Q1)) (fun _ => rfl) rfl trivial sd) (f2_ (.cons (frz_own (c := (cI .i64)) (l := ((([] : List Int) ++ p.Codes) : List Int)) (fun _ => rfl) rfl trivial sd) (.cons (frz_own (c := Q2.cells) (l := ([] : List Q2)) (fun _ => rfl) rfl trivial sd) (.cons (frz_own (c := Q1.cells) (l := ([] : List Q1)) (fun _ => rfl) rfl trivial sd) .nil)))))))))
  obtain ⟨hk19, h⟩ := Q12 h;refine Wt (Zn (c := Q1.cells) (e := 4) (l := ([] : List Q1)) (fun _ => rfl) sd hk19) ?_;refine Wx (c := Q1.cells) (vs := p.Will.Props) rfl ?_;apply iU h <;> intro h
  ·obtain rfl := Qo h; exact (Frz.agg' (Y5 (f2_ (f1_ (.cons (frz_own (c := Q1.cells) (l := ([] : List Q1)) (fun _ => rfl) rfl trivial sd) (f2_ (.cons (frz_own (c := (cI .i64)) (l := ((([] : List Int) ++ p.Codes) : List Int)) (fun _ => rfl) rfl trivial sd) (.cons (frz_own (c := Q2.cells) (l := ([] : List Q2)) (fun _ => rfl) rfl trivial sd) (.cons (frz_own (c := Q1.cells) (l := ((([] : List Q1) ++ p.Props) : List Q1)) (fun _ => rfl) rfl trivial sd) .nil)))))))))
  obtain ⟨hk23, h⟩ := Q12 h;refine Wt (Zn (c := Q1.cells) (e := 4) (l := ([] : List Q1)) (fun _ => rfl) sd hk23) ?_;obtain rfl := Qo h; exact (Frz.agg' (Y5 (f2_ (f1_ (.cons (frz_own (c := Q1.cells) (l := ((([] : List Q1) ++ p.Will.Props) : List Q1)) (fun _ => rfl) rfl trivial sd) (f2_ (.cons (frz_own (c := (cI .i64)) (l := ((([] : List Int) ++ p.Codes) : List Int)) (fun _ => rfl) rfl trivial sd) (.cons (frz_own (c := Q2.cells) (l := ([] : List Q2)) (fun _ => rfl) rfl trivial sd) (.cons (frz_own (c := Q1.cells) (l := ((([] : List Q1) ++ p.Props) : List Q1)) (fun _ => rfl) rfl trivial sd) .nil)))))))))
 obtain ⟨hk17, h⟩ := Q12 h;refine Wt (Zn (c := Q2.cells) (e := 5) (l := ([] : List Q2)) (fun _ => rfl) sd hk17) ?_;refine Wx (c := Q1.cells) (vs := p.Props) rfl ?_;apply iU h <;> intro h
 ·refine Wx (c := Q1.cells) (vs := p.Will.Props) rfl ?_;apply iU h <;> intro h
  ·obtain rfl := Qo h; exact (Frz.agg' (Y5 (f2_ (f1_ (.cons (frz_own (c := Q1.cells) (l := ([] : List Q1)) (fun _ => rfl) rfl trivial sd) (f2_ (.cons (frz_own (c := (cI .i64)) (l := ((([] : List Int) ++ p.Codes) : List Int)) (fun _ => rfl) rfl trivial sd) (.cons (frz_own (c := Q2.cells) (l := ((([] : List Q2) ++ p.Filters) : List Q2)) (fun _ => rfl) rfl trivial sd) (.cons (frz_own (c := Q1.cells) (l := ([] : List Q1)) (fun _ => rfl) rfl trivial sd) .nil)))))))))
  obtain ⟨hk27, h⟩ := Q12 h;refine Wt (Zn (c := Q1.cells) (e := 4) (l := ([] : List Q1)) (fun _ => rfl) sd hk27) ?_;obtain rfl := Qo h; exact (Frz.agg' (Y5 (f2_ (f1_ (.cons (frz_own (c := Q1.cells) (l := ((([] : List Q1) ++ p.Will.Props) : List Q1)) (fun _ => rfl) rfl trivial sd) (f2_ (.cons (frz_own (c := (cI .i64)) (l := ((([] : List Int) ++ p.Codes) : List Int)) (fun _ => rfl) rfl trivial sd) (.cons (frz_own (c := Q2.cells) (l := ((([] : List Q2) ++ p.Filters) : List Q2)) (fun _ => rfl) rfl trivial sd) (.cons (frz_own (c := Q1.cells) (l := ([] : List Q1)) (fun _ => rfl) rfl trivial sd) .nil)))))))))
 obtain ⟨hk25, h⟩ := Q12 h;refine Wt (Zn (c := Q1.cells) (e := 4) (l := ([] : List Q1)) (fun _ => rfl) sd hk25) ?_;refine Wx (c := Q1.cells) (vs := p.Will.Props) rfl ?_;apply iU h <;> intro h
 ·obtain rfl := Qo h; exact (Frz.agg' (Y5 (f2_ (f1_ (.cons (frz_own (c := Q1.cells) (l := ([] : List Q1)) (fun _ => rfl) rfl trivial sd) (f2_ (.cons (frz_own (c := (cI .i64)) (l := ((([] : List Int) ++ p.Codes) : List Int)) (fun _ => rfl) rfl trivial sd) (.cons (frz_own (c := Q2.cells) (l := ((([] : List Q2) ++ p.Filters) : List Q2)) (fun _ => rfl) rfl trivial sd) (.cons (frz_own (c := Q1.cells) (l := ((([] : List Q1) ++ p.Props) : List Q1)) (fun _ => rfl) rfl trivial sd) .nil)))))))))
 obtain ⟨hk29, h⟩ := Q12 h;refine Wt (Zn (c := Q1.cells) (e := 4) (l := ([] : List Q1)) (fun _ => rfl) sd hk29) ?_;obtain rfl := Qo h; exact (Frz.agg' (Y5 (f2_ (f1_ (.cons (frz_own (c := Q1.cells) (l := ((([] : List Q1) ++ p.Will.Props) : List Q1)) (fun _ => rfl) rfl trivial sd) (f2_ (.cons (frz_own (c := (cI .i64)) (l := ((([] : List Int) ++ p.Codes) : List Int)) (fun _ => rfl) rfl trivial sd) (.cons (frz_own (c := Q2.cells) (l := ((([] : List Q2) ++ p.Filters) : List Q2)) (fun _ => rfl) rfl trivial sd) (.cons (frz_own (c := Q1.cells) (l := ((([] : List Q1) ++ p.Props) : List Q1)) (fun _ => rfl) rfl trivial sd) .nil)))))))))
def Zd (N : Nat) (a : List Q1) (b : List Q1) : Nat → Int → Option Bool
 | 0, _ => none
 | n + 1, i17 =>
  cond (Q7 .lss i17 ((Q6 Q1.cells a).length : Int))
  ((idx a i17).bind fun y19 =>
  (idx b i17).bind fun y21 =>
  cond (!(((y19.ID : Int) == y21.ID) && (((y19.N' : Int) == y21.N') && (((y19.Text : List UInt8) == y21.Text) && (((y19.Value : List UInt8) == y21.Value) && true)))))
  (some false)
  (Zd N a b n (wrap .i64 (i17 + 1))))
  (some true)
def Yj (N : Nat) (a : List Q1) (b : List Q1) : Option Bool :=
 cond (Q7 .neq ((Q6 Q1.cells a).length : Int) ((Q6 Q1.cells b).length : Int))
 (some false)
 (Zd N a b N 0)
theorem V4 {N} {a} {b} {r} (h : Yj N a b = some r) : pU 17 [.slice 4 (Q6 Q1.cells a), .slice 4 (Q6 Q1.cells b)] (.bool r) := by
 refine Q0 k17 ?_;unfold Yj at h;rw [cX] at h;refine iL h fun h => ?_;refine lpH (τ := Int) (fun i17 => (.p (.slice 4 (Q6 Q1.cells a)) :: .p (.slice 4 (Q6 Q1.cells b)) :: a2 (.any :: iI i17 :: a16 (a4 ([]))) : List AV)) (fun n0 i17 => Zd N a b n0 i17) (0) h fun n0 i17 h => ?_
 first | rw [Zd] at h | simp only [Zd] at h
 rw [cX] at h;refine iR h fun h => ?_;refine Z1 ?_;refine xR h fun y19 h => ?_;refine xR h fun y21 h => ?_;refine iL h fun h => ?_;show Exists _;exact ⟨(n0, (wrap .i64 (i17 + 1))), h, Lg _, (fun i => i), Vf⟩
def Ye (N : Nat) (a : List Q1g) (b : List Q1g) : Nat → Int → Option Bool
 | 0, _ => none
 | n + 1, i17 =>
  cond (Q7 .lss i17 ((Q6 Q1g.cells a).length : Int))
  ((idx a i17).bind fun y19 =>
  (idx b i17).bind fun y21 =>
  cond (!(((y19.Radius : Int) == y21.Radius) && (((y19.Node : List UInt8) == y21.Node) && true)))
  (some false)
  (Ye N a b n (wrap .i64 (i17 + 1))))
  (some true)
def U9 (N : Nat) (a : List Q1g) (b : List Q1g) : Option Bool :=
 cond (Q7 .neq ((Q6 Q1g.cells a).length : Int) ((Q6 Q1g.cells b).length : Int))
 (some false)
 (Ye N a b N 0)
theorem Q23 {N} {a} {b} {r} (h : U9 N a b = some r) : pU 18 [.slice 2 (Q6 Q1g.cells a), .slice 2 (Q6 Q1g.cells b)] (.bool r) := by
 refine Q0 k18 ?_;unfold U9 at h;rw [cX] at h;refine iL h fun h => ?_;refine lpH (τ := Int) (fun i17 => (.p (.slice 2 (Q6 Q1g.cells a)) :: .p (.slice 2 (Q6 Q1g.cells b)) :: a2 (.any :: iI i17 :: a16 (a4 ([]))) : List AV)) (fun n0 i17 => Ye N a b n0 i17) (0) h fun n0 i17 h => ?_
 first | rw [Ye] at h | simp only [Ye] at h
 rw [cX] at h;refine iR h fun h => ?_;refine Z1 ?_;refine xR h fun y19 h => ?_;refine xR h fun y21 h => ?_;refine iL h fun h => ?_;show Exists _;exact ⟨(n0, (wrap .i64 (i17 + 1))), h, Lg _, (fun i => i), Vf⟩
def Yd (rz : Q5 → Q5 → Option Bool) (N : Nat) (a : Q5) (b : Q5) : Nat → Int → Option Bool
 | 0, _ => none
 | n + 1, i22 =>
  cond (Q7 .lss i22 ((Q5.rows a.Items).length : Int))
  ((idx a.Items i22).bind fun y24 =>
  (idx b.Items i22).bind fun y26 =>
  (rz y24 y26).bind fun v28 =>
  cond (!v28)
  (some false)
  (Yd rz N a b n (wrap .i64 (i22 + 1))))
  (some true)
def U8 (rz : Q5 → Q5 → Option Bool) (N : Nat) (a : Q5) (b : Q5) : Option Bool :=
 cond (Q7 .neq a.Kind b.Kind)
 (some false)
 (cond (Q7 .neq a.N' b.N')
 (some false)
 (cond (Gp .neq a.Text b.Text)
 (some false)
 (cond (Q7 .neq ((Q5.rows a.Items).length : Int) ((Q5.rows b.Items).length : Int))
 (some false)
 (Yd rz N a b N 0))))
theorem Q1u {rz : Q5 → Q5 → Option Bool} (hy1 : ∀ {a} {b} {r}, rz a b = some r → pU 27 [.agg (Q5.cells a), .agg (Q5.cells b)] (.bool r)) {N} {a} {b} {r} (h : U8 rz N a b = some r) : pU 27 [.agg (Q5.cells a), .agg (Q5.cells b)] (.bool r) := by
 refine Q0 k27 ?_;unfold U8 at h;rw [cX, cY] at h;refine iL h fun h => ?_;refine iL h fun h => ?_;refine iL h fun h => ?_;refine iL h fun h => ?_;refine lpH (τ := Int) (fun i22 => (.any :: .any :: .ptr 0 0 :: .ptr 1 0 :: .any :: iI i22 :: a16 (a16 (a8 (a4 (a2 (.any :: []))))) : List AV)) (fun n0 i22 => Yd rz N a b n0 i22) (0) h fun n0 i22 h => ?_
 first | rw [Yd] at h | simp only [Yd] at h
 rw [cX] at h;refine iR h fun h => ?_;refine Z1 ?_;refine Q5.xR h fun y24 h => ?_;refine Q5.xR h fun y26 h => ?_;refine cD h hy1 (.cons q4 (.cons q4 .nil)) fun v28 h => ?_;refine iL h fun h => ?_;show Exists _;exact ⟨(n0, (wrap .i64 (i22 + 1))), h, Lg _, (fun i => i), Vf⟩
def Wj : Nat → Q5 → Q5 → Option Bool
 | 0 => fun _ _ => none
 | N + 1 => U8 (Wj N) N
theorem Q1k {N} {a} {b} {r} (h : Wj N a b = some r) : pU 27 [.agg (Q5.cells a), .agg (Q5.cells b)] (.bool r) := by
 induction N generalizing a b r with
 | zero => simp [Wj] at h
 | succ N ih => exact Q1u (fun h => ih h) h
def Yg (N : Nat) (a : Vz) (b : Vz) : Nat → Int → Option Bool
 | 0, _ => none
 | n + 1, i22 =>
  cond (Q7 .lss i22 ((Q5.rows a.Values).length : Int))
  ((idx a.Values i22).bind fun y24 =>
  (idx b.Values i22).bind fun y26 =>
  (Wj N y24 y26).bind fun v28 =>
  cond (!v28)
  (some false)
  (Yg N a b n (wrap .i64 (i22 + 1))))
  (some true)
def Ub (N : Nat) (a : Vz) (b : Vz) : Option Bool :=
 cond (Q7 .neq a.Type' b.Type')
 (some false)
 (cond (Q7 .neq a.Channel b.Channel)
 (some false)
 (cond (Gp .neq a.Ext b.Ext)
 (some false)
 (cond (Q7 .neq ((Q5.rows a.Values).length : Int) ((Q5.rows b.Values).length : Int))
 (some false)
 (Yg N a b N 0))))
theorem Q24 {N} {a} {b} {r} (h : Ub N a b = some r) : pU 19 [.agg (Vz.cells a), .agg (Vz.cells b)] (.bool r) := by
 refine Q0 k19 ?_;unfold Ub at h;rw [cX, cY] at h;refine iL h fun h => ?_;refine iL h fun h => ?_;refine iL h fun h => ?_;refine iL h fun h => ?_;refine lpH (τ := Int) (fun i22 => (.any :: .any :: .ptr 0 0 :: .ptr 1 0 :: .any :: iI i22 :: a16 (a16 (a8 (a4 (a2 (.any :: []))))) : List AV)) (fun n0 i22 => Yg N a b n0 i22) (0) h fun n0 i22 h => ?_
 first | rw [Yg] at h | simp only [Yg] at h
 rw [cX] at h;refine iR h fun h => ?_;refine Z1 ?_;refine Q5.xR h fun y24 h => ?_;refine Q5.xR h fun y26 h => ?_;refine cD h Q1k (.cons q4 (.cons q4 .nil)) fun v28 h => ?_;refine iL h fun h => ?_;show Exists _;exact ⟨(n0, (wrap .i64 (i22 + 1))), h, Lg _, (fun i => i), Vf⟩
def Zc (N : Nat) (a : List Int) (b : List Int) : Nat → Int → Option Bool
 | 0, _ => none
 | n + 1, i17 =>
  cond (Q7 .lss i17 ((Q6 (cI .i64) a).length : Int))
  ((idx a i17).bind fun y19 =>
  (idx b i17).bind fun y21 =>
  cond (Q7 .neq y19 y21)
  (some false)
  (Zc N a b n (wrap .i64 (i17 + 1))))
  (some true)
def Wk (N : Nat) (a : List Int) (b : List Int) : Option Bool :=
 cond (Q7 .neq ((Q6 (cI .i64) a).length : Int) ((Q6 (cI .i64) b).length : Int))
 (some false)
 (Zc N a b N 0)
theorem Q1z {N} {a} {b} {r} (h : Wk N a b = some r) : pU 20 [.slice 1 (Q6 (cI .i64) a), .slice 1 (Q6 (cI .i64) b)] (.bool r) := by
 refine Q0 k20 ?_;unfold Wk at h;rw [cX] at h;refine iL h fun h => ?_;refine lpH (τ := Int) (fun i17 => (.p (.slice 1 (Q6 (cI .i64) a)) :: .p (.slice 1 (Q6 (cI .i64) b)) :: a2 (.any :: iI i17 :: a16 (a4 ([]))) : List AV)) (fun n0 i17 => Zc N a b n0 i17) (0) h fun n0 i17 h => ?_
 first | rw [Zc] at h | simp only [Zc] at h
 rw [cX] at h;refine iR h fun h => ?_;refine Z1 ?_;refine xR h fun y19 h => ?_;refine xR h fun y21 h => ?_;refine iL h fun h => ?_;show Exists _;exact ⟨(n0, (wrap .i64 (i17 + 1))), h, Lg _, (fun i => i), Vf⟩
def Z4 (N : Nat) (a : List Q2) (b : List Q2) : Nat → Int → Option Bool
 | 0, _ => none
 | n + 1, i17 =>
  cond (Q7 .lss i17 ((Q6 Q2.cells a).length : Int))
  ((idx a i17).bind fun y19 =>
  (idx b i17).bind fun y21 =>
  cond (!(((y19.Topic : List UInt8) == y21.Topic) && (((y19.QoS : Int) == y21.QoS) && (((y19.NoLocal : Bool) == y21.NoLocal) && (((y19.AsPublished : Bool) == y21.AsPublished) && (((y19.Handling : Int) == y21.Handling) && true))))))
  (some false)
  (Z4 N a b n (wrap .i64 (i17 + 1))))
  (some true)
def Xn (N : Nat) (a : List Q2) (b : List Q2) : Option Bool :=
 cond (Q7 .neq ((Q6 Q2.cells a).length : Int) ((Q6 Q2.cells b).length : Int))
 (some false)
 (Z4 N a b N 0)
theorem Q0k {N} {a} {b} {r} (h : Xn N a b = some r) : pU 21 [.slice 5 (Q6 Q2.cells a), .slice 5 (Q6 Q2.cells b)] (.bool r) := by
 refine Q0 k21 ?_;unfold Xn at h;rw [cX] at h;refine iL h fun h => ?_;refine lpH (τ := Int) (fun i17 => (.p (.slice 5 (Q6 Q2.cells a)) :: .p (.slice 5 (Q6 Q2.cells b)) :: a2 (.any :: iI i17 :: a16 (a4 ([]))) : List AV)) (fun n0 i17 => Z4 N a b n0 i17) (0) h fun n0 i17 h => ?_
 first | rw [Z4] at h | simp only [Z4] at h
 rw [cX] at h;refine iR h fun h => ?_;refine Z1 ?_;refine xR h fun y19 h => ?_;refine xR h fun y21 h => ?_;refine iL h fun h => ?_;show Exists _;exact ⟨(n0, (wrap .i64 (i17 + 1))), h, Lg _, (fun i => i), Vf⟩
def Y2 (N : Nat) (a : Q3) (b : Q3) : Option Bool :=
 cond (Gp .neq a.Will.Topic b.Will.Topic)
 (some false)
 (cond (Gp .neq a.Will.Payload b.Will.Payload)
 (some false)
 (cond (Q7 .neq a.Will.QoS b.Will.QoS)
 (some false)
 (cond (!(a.Will.Retain == b.Will.Retain))
 (some false)
 ((Yj N a.Will.Props b.Will.Props).bind fun v5 =>
 cond (!v5)
 (some false)
 (cond (Q7 .neq a.Kind b.Kind)
 (some false)
 (cond (!(a.Dup == b.Dup))
 (some false)
 (cond (!(a.Retain == b.Retain))
 (some false)
 (cond (Q7 .neq a.QoS b.QoS)
 (some false)
 (cond (Q7 .neq a.ID b.ID)
 (some false)
 (cond (Gp .neq a.Topic b.Topic)
 (some false)
 (cond (Gp .neq a.Payload b.Payload)
 (some false)
 (cond (!(a.Clean == b.Clean))
 (some false)
 (cond (Q7 .neq a.KeepAlive b.KeepAlive)
 (some false)
 (cond (Gp .neq a.Client b.Client)
 (some false)
 (cond (!(a.HasUser == b.HasUser))
 (some false)
 (cond (Gp .neq a.User b.User)
 (some false)
 (cond (!(a.HasPass == b.HasPass))
 (some false)
 (cond (Gp .neq a.Pass b.Pass)
 (some false)
 (cond (!(a.HasWill == b.HasWill))
 (some false)
 (cond (!(a.Session == b.Session))
 (some false)
 (cond (Q7 .neq a.Code b.Code)
 (some false)
 ((Wk N a.Codes b.Codes).bind fun v25 =>
 cond v25
 ((Xn N a.Filters b.Filters).bind fun v28 =>
 cond v28
 ((Yj N a.Props b.Props).bind fun v31 =>
 some v31)
 (some false))
 (some false)))))))))))))))))))))))
theorem Ji {N} {a} {b} {r} (h : Y2 N a b = some r) : pU 9 [.agg (Q3.cells a), .agg (Q3.cells b)] (.bool r) := by
 refine Q0 k9 ?_;unfold Y2 at h;rw [cX, cY] at h;refine Z1 ?_;refine iL h fun h => ?_;refine iL h fun h => ?_;refine iL h fun h => ?_;refine iL h fun h => ?_;refine cP h V4 p2 fun v5 h => ?_;refine iL h fun h => ?_;refine iL h fun h => ?_;refine iL h fun h => ?_;refine iL h fun h => ?_;refine iL h fun h => ?_;refine iL h fun h => ?_;refine iL h fun h => ?_;refine iL h fun h => ?_;refine iL h fun h => ?_;refine iL h fun h => ?_;refine iL h fun h => ?_;refine iL h fun h => ?_;refine iL h fun h => ?_;refine iL h fun h => ?_;refine iL h fun h => ?_;refine iL h fun h => ?_;refine iL h fun h => ?_;refine iL h fun h => ?_;refine cP h Q1z p2 fun v25 h => ?_;refine iR h fun h => ?_;refine cP h Q0k p2 fun v28 h => ?_;refine iR h fun h => ?_;refine cP h V4 p2 fun v31 h => ?_;cases h; exact (.p _)
def Wi (N : Nat) (a : Yn) (b : Yn) : Option Bool :=
 cond (Q7 .eql a.Proto b.Proto)
 (cond (Q7 .eql a.Kind b.Kind)
 (cond (Gp .eql a.Topic b.Topic)
 (cond (Gp .eql a.Payload b.Payload)
 (cond (Q7 .eql a.QoS b.QoS)
 (cond (a.Retain == b.Retain)
 (cond (a.Dup == b.Dup)
 (cond (Q7 .eql a.ID b.ID)
 ((Yj N a.Props b.Props).bind fun v9 =>
 cond v9
 (cond (Q7 .eql a.Type' b.Type')
 ((U9 N a.Hops b.Hops).bind fun v13 =>
 cond v13
 (cond (Q7 .eql a.Channel b.Channel)
 ((Y2 N a.Packet b.Packet).bind fun v17 =>
 cond v17
 (cond (((a.Msg.Type' : Int) == b.Msg.Type') && (((a.Msg.Flags.Dup : Bool) == b.Msg.Flags.Dup) && (((a.Msg.Flags.QoS : Int) == b.Msg.Flags.QoS) && (((a.Msg.Flags.Retain : Bool) == b.Msg.Flags.Retain) && (((a.Msg.Flags.Will : Bool) == b.Msg.Flags.Will) && (((a.Msg.Flags.Clean : Bool) == b.Msg.Flags.Clean) && (((a.Msg.Flags.Type' : Int) == b.Msg.Flags.Type') && (((a.Msg.Gateway : Int) == b.Msg.Gateway) && (((a.Msg.Radius : Int) == b.Msg.Radius) && (((a.Msg.Time : Int) == b.Msg.Time) && (((a.Msg.Timed : Bool) == b.Msg.Timed) && (((a.Msg.TopicID : Int) == b.Msg.TopicID) && (((a.Msg.MsgID : Int) == b.Msg.MsgID) && (((a.Msg.Code : Int) == b.Msg.Code) && (((a.Msg.Name : List UInt8) == b.Msg.Name) && (((a.Msg.Data : List UInt8) == b.Msg.Data) && true))))))))))))))))
 ((Ub N a.Frame b.Frame).bind fun v21 =>
 some v21)
 (some false))
 (some false))
 (some false))
 (some false))
 (some false))
 (some false))
 (some false))
 (some false))
 (some false))
 (some false))
 (some false))
 (some false))
 (some false))
 (some false)
theorem Q1n {N} {a} {b} {r} (h : Wi N a b = some r) : pU 8 [.agg (Yn.cells a), .agg (Yn.cells b)] (.bool r) := by
 refine Q0 k8 ?_;unfold Wi at h;rw [cX, cY] at h;refine iR h fun h => ?_;refine iR h fun h => ?_;refine iR h fun h => ?_;refine iR h fun h => ?_;refine iR h fun h => ?_;refine iR h fun h => ?_;refine iR h fun h => ?_;refine iR h fun h => ?_;refine cP h V4 p2 fun v9 h => ?_;refine iR h fun h => ?_;refine iR h fun h => ?_;refine cP h Q23 p2 fun v13 h => ?_;refine iR h fun h => ?_;refine iR h fun h => ?_;refine cP h Ji (.cons (Frz.agg' (Y5 (f2_ (f1_ (.cons (.p _) p5))))) (.cons (Frz.agg' (Y5 (f2_ (f1_ (.cons (.p _) p5))))) .nil)) fun v17 h => ?_;refine iR h fun h => ?_;refine Qmv (ks := [0, 2, 0, 2, 2, 2, 0, 0, 0, 0, 2, 0, 0, 0, 1, 1]) (xs := [iI a.Msg.Type', .p (.bool a.Msg.Flags.Dup), iI a.Msg.Flags.QoS, .p (.bool a.Msg.Flags.Retain), .p (.bool a.Msg.Flags.Will), .p (.bool a.Msg.Flags.Clean), iI a.Msg.Flags.Type', iI a.Msg.Gateway, iI a.Msg.Radius, iI a.Msg.Time, .p (.bool a.Msg.Timed), iI a.Msg.TopicID, iI a.Msg.MsgID, iI a.Msg.Code, iS a.Msg.Name, iS a.Msg.Data]) (ys := [iI b.Msg.Type', .p (.bool b.Msg.Flags.Dup), iI b.Msg.Flags.QoS, .p (.bool b.Msg.Flags.Retain), .p (.bool b.Msg.Flags.Will), .p (.bool b.Msg.Flags.Clean), iI b.Msg.Flags.Type', iI b.Msg.Gateway, iI b.Msg.Radius, iI b.Msg.Time, .p (.bool b.Msg.Timed), iI b.Msg.TopicID, iI b.Msg.MsgID, iI b.Msg.Code, iS b.Msg.Name, iS b.Msg.Data]) (b := (((a.Msg.Type' : Int) == b.Msg.Type') && (((a.Msg.Flags.Dup : Bool) == b.Msg.Flags.Dup) && (((a.Msg.Flags.QoS : Int) == b.Msg.Flags.QoS) && (((a.Msg.Flags.Retain : Bool) == b.Msg.Flags.Retain) && (((a.Msg.Flags.Will : Bool) == b.Msg.Flags.Will) && (((a.Msg.Flags.Clean : Bool) == b.Msg.Flags.Clean) && (((a.Msg.Flags.Type' : Int) == b.Msg.Flags.Type') && (((a.Msg.Gateway : Int) == b.Msg.Gateway) && (((a.Msg.Radius : Int) == b.Msg.Radius) && (((a.Msg.Time : Int) == b.Msg.Time) && (((a.Msg.Timed : Bool) == b.Msg.Timed) && (((a.Msg.TopicID : Int) == b.Msg.TopicID) && (((a.Msg.MsgID : Int) == b.Msg.MsgID) && (((a.Msg.Code : Int) == b.Msg.Code) && (((a.Msg.Name : List UInt8) == b.Msg.Name) && (((a.Msg.Data : List UInt8) == b.Msg.Data) && true))))))))))))))))) rfl ?_;refine iR h fun h => ?_;refine cP h Q24 (.cons q4 (.cons q4 .nil)) fun v21 h => ?_;cases h; exact (.p _)
def Qs (N : Nat) (p : Q3) (v7 : Q3) : Nat → Int → (List Int) → Option Bool
 | 0, _, _ => none
 | n + 1, i77, l78 =>
  cond (Q7 .lss i77 (l78.length : Int))
  ((idx (l78 : List Int) i77).bind fun y80 =>
  (idx (l78 : List Int) i77).bind fun y82 =>
  Qs N p v7 n (wrap .i64 (i77 + 1)) ((l78 : List Int).set (Int.toNat i77) (wrap .i64 (y80 + 1))))
  ((Y2 N p v7).bind fun v84 =>
  some v84)
def Qr (N : Nat) (p : Q3) (v7 : Q3) (v9 : Yn × Int) : Nat → Int → (List Q2) → Option Bool
 | 0, _, _ => none
 | n + 1, i60, l61 =>
  cond (Q7 .lss i60 (l61.length : Int))
  ((idx (l61 : List Q2) i60).bind fun y63 =>
  Qr N p v7 v9 n (wrap .i64 (i60 + 1)) ((l61 : List Q2).set (Int.toNat i60) (⟨[], y63.QoS, y63.NoLocal, y63.AsPublished, y63.Handling⟩ : Q2)))
  (Qs N p v7 N 0 v9.1.Packet.Codes)
def Qt (N : Nat) (p : Q3) (v7 : Q3) (v9 : Yn × Int) : Nat → Int → (List Q1) → Option Bool
 | 0, _, _ => none
 | n + 1, i45, l46 =>
  cond (Q7 .lss i45 (l46.length : Int))
  ((idx (l46 : List Q1) i45).bind fun y48 =>
  (idx (l46 : List Q1) i45).bind fun y50 =>
  Qt N p v7 v9 n (wrap .i64 (i45 + 1)) ((l46 : List Q1).set (Int.toNat i45) (⟨y50.ID, (wrap .u32 (y48.N' + 1)), y50.Text, y50.Value⟩ : Q1)))
  (Qr N p v7 v9 N 0 v9.1.Packet.Filters)
def Qp (N : Nat) (p : Q3) (v7 : Q3) (v9 : Yn × Int) : Nat → Int → (List Q1) → Option Bool
 | 0, _, _ => none
 | n + 1, i26, l27 =>
  cond (Q7 .lss i26 (l27.length : Int))
  ((idx (l27 : List Q1) i26).bind fun y29 =>
  (idx (l27 : List Q1) i26).bind fun y31 =>
  Qp N p v7 v9 n (wrap .i64 (i26 + 1)) ((l27 : List Q1).set (Int.toNat i26) (⟨y31.ID, (wrap .u32 (y29.N' + 1)), y31.Text, y31.Value⟩ : Q1)))
  (Qt N p v7 v9 N 0 v9.1.Packet.Props)
def Zu (N : Nat) (version : Int) (p : Q3) : Option Bool :=
 (Wa N).bind fun v1 =>
 cond (!v1)
 (some false)
 ((X5 N p).bind fun v4 =>
 cond (!v4)
 (some true)
 ((Xi N p).bind fun v7 =>
 (W9 N version p).bind fun v9 =>
 cond (Q7 .neq v9.2 0)
 ((Wi N v9.1 (⟨0, 0, [], [], 0, false, false, 0, [], 0, [], 0, (⟨0, false, false, 0, 0, [], [], false, 0, [], false, [], false, [], false, (⟨[], [], 0, false, []⟩ : Xe), false, 0, [], [], []⟩ : Q3), (⟨0, (⟨false, 0, false, false, false, 0⟩ : Q3p), 0, 0, 0, false, 0, 0, 0, [], []⟩ : Qfx), (⟨0, 0, [], []⟩ : Vz)⟩ : Yn)).bind fun v12 =>
 some v12)
 (Qp N p v7 v9 N 0 v9.1.Props)))
theorem Gd {N} {version} {p} {r} (h : Zu N version p = some r) : pU 3 [.int .i64 version, .agg (Q3.cells p)] (.bool r) := by
 refine Q0 k3 ?_;unfold Zu at h;rw [cX] at h;refine cP h Q1c p0 fun v1 h => ?_;refine iL h fun h => ?_;refine cP h Gv (.cons (Frz.agg' (Y5 (f2_ (f1_ (.cons (.p _) p5))))) .nil) fun v4 h => ?_;refine iL h fun h => ?_;refine cP h Q1p (.cons (Frz.agg' (Y5 (f2_ (f1_ (.cons (.p _) p5))))) .nil) fun v7 h => ?_;refine cO h Q6f (fun v9 => .tuple [.agg (Q5d v9.1 (.slice 4 2 0 v9.1.Props.length) (.slice 2 3 0 v9.1.Hops.length) (.slice 4 4 0 v9.1.Packet.Will.Props.length) (.slice 1 5 0 v9.1.Packet.Codes.length) (.slice 5 6 0 v9.1.Packet.Filters.length) (.slice 4 7 0 v9.1.Packet.Props.length) (.slice 4 8 0 v9.1.Frame.Values.length)), iI v9.2]) (rE rfl <| rF (Frz.agg' (Y5 (f2_ (f1_ (.cons (.p _) p5))))) <| rN) fun v9 h => ?_;apply iU h <;> intro h
 ·refine cK h Q1n (.cons (Frz.agg' (f8_ (.cons (frz_own (c := Q1.cells) (l := (v9.1.Props : List Q1)) (fun _ => rfl) rfl trivial sd) (.cons (.p _) (.cons (frz_own (c := Q1g.cells) (l := (v9.1.Hops : List Q1g)) (fun _ => rfl) rfl trivial sd) (Y5 (f4_ (.cons (frz_own (c := Q1.cells) (l := (v9.1.Packet.Will.Props : List Q1)) (fun _ => rfl) rfl trivial sd) (f2_ (.cons (frz_own (c := (cI .i64)) (l := (v9.1.Packet.Codes : List Int)) (fun _ => rfl) rfl trivial sd) (.cons (frz_own (c := Q2.cells) (l := (v9.1.Packet.Filters : List Q2)) (fun _ => rfl) rfl trivial sd) (.cons (frz_own (c := Q1.cells) (l := (v9.1.Packet.Props : List Q1)) (fun _ => rfl) rfl trivial sd) (Y5 (f2_ (f1_ (.cons (Q5.frz_own (l := v9.1.Frame.Values) rfl trivial sd) .nil)))))))))))))))) (.cons (Frz.agg' (f8_ (.cons (.nil _) (.cons (.p _) (.cons (.nil _) (Y5 (f4_ (.cons (.nil _) (f2_ (.cons (.nil _) (.cons (.nil _) (.cons (.nil _) (Y5 (f2_ (f1_ (.cons (.nil _) .nil)))))))))))))))) .nil)) fun v12 h => ?_;cases h; exact (.p _)
 refine lpC (τ := Int × (List Q1)) (fun ⟨i26, _⟩ => (a2 (.any :: .ptr 0 0 :: .any :: .ptr 1 0 :: .ptr 9 0 :: .any :: iI i26 :: a16 (a16 (a16 (a16 (a16 (a8 ([]))))))) : List AV)) (fun ⟨_, l27⟩ => (.cells (Vt p ([])) :: .cells (Vt v7 ([])) :: .dead :: .cells (Y4 Q1g.cells v9.1.Hops) :: .cells (Y4 Q1.cells v9.1.Packet.Will.Props) :: .cells (Y4 (cI .i64) v9.1.Packet.Codes) :: .cells (Y4 Q2.cells v9.1.Packet.Filters) :: .cells (Y4 Q1.cells v9.1.Packet.Props) :: .cells (Y4 Q5.cells v9.1.Frame.Values) :: .cells (Q7k v9.1 (.slice 4 10 0 l27.length) (.slice 2 3 0 v9.1.Hops.length) (.slice 4 4 0 v9.1.Packet.Will.Props.length) (.slice 1 5 0 v9.1.Packet.Codes.length) (.slice 5 6 0 v9.1.Packet.Filters.length) (.slice 4 7 0 v9.1.Packet.Props.length) (.slice 4 8 0 v9.1.Frame.Values.length) ([])) :: .cells (Y4 Q1.cells l27) :: [] : List AObj)) (fun n0 ⟨i26, l27⟩ => Qp N p v7 v9 n0 i26 l27) (0, v9.1.Props) h (rho [0, 1, 2, 3, 4, 5, 6, 7, 8, 9, 2]) Vf fun n0 ⟨i26, l27⟩ h => ?_
 first | rw [Qp] at h | simp only [Qp] at h
 rw [cX] at h;apply iU h <;> intro h
 ·obtain ⟨y29, hy30, h⟩ := Wq h;refine Wt (Vl hy30 sd) ?_
  refine Qfj (c := Q1.cells) (e := 4) (n := 1) (fun _ => rfl) hy30 (off := 1) (by decide) (by first | omega | (simp only [Gm, orI, Q7g, Xf, Q1l, Q3u]; omega)) ?_
  obtain ⟨y31, hy32, h⟩ := Wq h;refine Wt (Vl hy32 sd) ?_;refine Wt (Wo (c := Q1.cells) (e := 4) (fun _ => rfl) hy32 (off := 1) (by omega) rfl (by decide)) ?_
  refine Wr (c := Q1.cells) (e := 4) (fun _ => rfl) hy32 (⟨y31.ID, (wrap .u32 (y29.N' + 1)), y31.Text, y31.Value⟩ : Q1) (off := 1) (by first | omega | (simp only [Gm, orI, Q7g, Xf, Q1l, Q3u]; omega)) rfl (by simp) ?_
  show Exists _;exact ⟨(n0, (wrap .i64 (i26 + 1)), ((l27 : List Q1).set (Int.toNat i26) (⟨y31.ID, (wrap .u32 (y29.N' + 1)), y31.Text, y31.Value⟩ : Q1))), h, Lg _, (fun i => i), Vf⟩
 refine lpC (τ := Int × (List Q1)) (fun ⟨i45, _⟩ => (a2 (.any :: .ptr 0 0 :: .any :: .ptr 1 0 :: .ptr 9 0 :: .any :: .any :: iI i45 :: a16 (a16 (a16 (a16 (a16 (a4 (a2 (.any :: [])))))))) : List AV)) (fun ⟨_, l46⟩ => (.cells (Vt p ([])) :: .cells (Vt v7 ([])) :: .dead :: .cells (Y4 Q1g.cells v9.1.Hops) :: .cells (Y4 Q1.cells v9.1.Packet.Will.Props) :: .cells (Y4 (cI .i64) v9.1.Packet.Codes) :: .cells (Y4 Q2.cells v9.1.Packet.Filters) :: .dead :: .cells (Y4 Q5.cells v9.1.Frame.Values) :: .cells (Q7k v9.1 (.slice 4 10 0 l27.length) (.slice 2 3 0 v9.1.Hops.length) (.slice 4 4 0 v9.1.Packet.Will.Props.length) (.slice 1 5 0 v9.1.Packet.Codes.length) (.slice 5 6 0 v9.1.Packet.Filters.length) (.slice 4 11 0 l46.length) (.slice 4 8 0 v9.1.Frame.Values.length) ([])) :: .cells (Y4 Q1.cells l27) :: .cells (Y4 Q1.cells l46) :: [] : List AObj)) (fun n1 ⟨i45, l46⟩ => Qt N p v7 v9 n1 i45 l46) (0, v9.1.Packet.Props) h (rho [0, 1, 2, 3, 4, 5, 6, 7, 8, 9, 10, 7]) Vf fun n1 ⟨i45, l46⟩ h => ?_
 first | rw [Qt] at h | simp only [Qt] at h
 rw [cX] at h;apply iU h <;> intro h
 ·obtain ⟨y48, hy49, h⟩ := Wq h;refine Wt (Vl hy49 sd) ?_
  refine Qfj (c := Q1.cells) (e := 4) (n := 1) (fun _ => rfl) hy49 (off := 1) (by decide) (by first | omega | (simp only [Gm, orI, Q7g, Xf, Q1l, Q3u]; omega)) ?_
  obtain ⟨y50, hy51, h⟩ := Wq h;refine Wt (Vl hy51 sd) ?_;refine Wt (Wo (c := Q1.cells) (e := 4) (fun _ => rfl) hy51 (off := 1) (by omega) rfl (by decide)) ?_
  refine Wr (c := Q1.cells) (e := 4) (fun _ => rfl) hy51 (⟨y50.ID, (wrap .u32 (y48.N' + 1)), y50.Text, y50.Value⟩ : Q1) (off := 1) (by first | omega | (simp only [Gm, orI, Q7g, Xf, Q1l, Q3u]; omega)) rfl (by simp) ?_
  show Exists _;exact ⟨(n1, (wrap .i64 (i45 + 1)), ((l46 : List Q1).set (Int.toNat i45) (⟨y50.ID, (wrap .u32 (y48.N' + 1)), y50.Text, y50.Value⟩ : Q1))), h, Lg _, (fun i => i), Vf⟩
 refine lpC (τ := Int × (List Q2)) (fun ⟨i60, _⟩ => (a2 (.any :: .ptr 0 0 :: .any :: .ptr 1 0 :: .ptr 9 0 :: a2 (.any :: iI i60 :: a16 (a16 (a16 (a16 (a16 (a4 (a2 ([]))))))))) : List AV)) (fun ⟨_, l61⟩ => (.cells (Vt p ([])) :: .cells (Vt v7 ([])) :: .dead :: .cells (Y4 Q1g.cells v9.1.Hops) :: .cells (Y4 Q1.cells v9.1.Packet.Will.Props) :: .cells (Y4 (cI .i64) v9.1.Packet.Codes) :: .dead :: .dead :: .cells (Y4 Q5.cells v9.1.Frame.Values) :: .cells (Q7k v9.1 (.slice 4 10 0 l27.length) (.slice 2 3 0 v9.1.Hops.length) (.slice 4 4 0 v9.1.Packet.Will.Props.length) (.slice 1 5 0 v9.1.Packet.Codes.length) (.slice 5 12 0 l61.length) (.slice 4 11 0 l46.length) (.slice 4 8 0 v9.1.Frame.Values.length) ([])) :: .cells (Y4 Q1.cells l27) :: .cells (Y4 Q1.cells l46) :: .cells (Y4 Q2.cells l61) :: [] : List AObj)) (fun n2 ⟨i60, l61⟩ => Qr N p v7 v9 n2 i60 l61) (0, v9.1.Packet.Filters) h (rho [0, 1, 2, 3, 4, 5, 6, 7, 8, 9, 10, 11, 6]) Vf fun n2 ⟨i60, l61⟩ h => ?_
 first | rw [Qr] at h | simp only [Qr] at h
 rw [cX] at h;apply iU h <;> intro h
 ·obtain ⟨y63, hy64, h⟩ := Wq h;refine Wt (Vl hy64 sd) ?_;refine Wt (Wo (c := Q2.cells) (e := 5) (fun _ => rfl) hy64 (off := 0) (by omega) rfl (by decide)) ?_
  refine Wr (c := Q2.cells) (e := 5) (fun _ => rfl) hy64 (⟨[], y63.QoS, y63.NoLocal, y63.AsPublished, y63.Handling⟩ : Q2) (off := 0) (by first | omega | (simp only [Gm, orI, Q7g, Xf, Q1l, Q3u]; omega)) rfl (by simp) ?_
  show Exists _;exact ⟨(n2, (wrap .i64 (i60 + 1)), ((l61 : List Q2).set (Int.toNat i60) (⟨[], y63.QoS, y63.NoLocal, y63.AsPublished, y63.Handling⟩ : Q2))), h, Lg _, (fun i => i), Vf⟩
 refine lpC (τ := Int × (List Int)) (fun ⟨i77, _⟩ => (a2 (.any :: .ptr 0 0 :: .any :: .ptr 1 0 :: .ptr 9 0 :: a4 (iI i77 :: a16 (a16 (a16 (a16 (a16 (a4 (.any :: [])))))))) : List AV)) (fun ⟨_, l78⟩ => (.cells (Vt p ([])) :: .cells (Vt v7 ([])) :: .dead :: .cells (Y4 Q1g.cells v9.1.Hops) :: .cells (Y4 Q1.cells v9.1.Packet.Will.Props) :: .dead :: .dead :: .dead :: .cells (Y4 Q5.cells v9.1.Frame.Values) :: .cells (Q7k v9.1 (.slice 4 10 0 l27.length) (.slice 2 3 0 v9.1.Hops.length) (.slice 4 4 0 v9.1.Packet.Will.Props.length) (.slice 1 13 0 l78.length) (.slice 5 12 0 l61.length) (.slice 4 11 0 l46.length) (.slice 4 8 0 v9.1.Frame.Values.length) ([])) :: .cells (Y4 Q1.cells l27) :: .cells (Y4 Q1.cells l46) :: .cells (Y4 Q2.cells l61) :: .cells (Y4 (cI .i64) l78) :: [] : List AObj)) (fun n3 ⟨i77, l78⟩ => Qs N p v7 n3 i77 l78) (0, v9.1.Packet.Codes) h (rho [0, 1, 2, 3, 4, 5, 6, 7, 8, 9, 10, 11, 12, 5]) Vf fun n3 ⟨i77, l78⟩ h => ?_
 first | rw [Qs] at h | simp only [Qs] at h
 rw [cX] at h;apply iU h <;> intro h
 ·obtain ⟨y80, hy81, h⟩ := Wq h;refine Wt (Vl hy81 sd) ?_
  refine Q0b (c := (cI .i64)) (e := 1) (fun _ => rfl) hy81 (off := 0) (by decide) (by first | omega | (simp only [Gm, orI, Q7g, Xf, Q1l, Q3u]; omega)) ?_
  obtain ⟨y82, hy83, h⟩ := Wq h;refine Wt (Vl hy83 sd) ?_;refine Wt (Wo (c := (cI .i64)) (e := 1) (fun _ => rfl) hy83 (off := 0) (by omega) rfl (by decide)) ?_
  refine Wr (c := (cI .i64)) (e := 1) (fun _ => rfl) hy83 (wrap .i64 (y80 + 1)) (off := 0) (by first | omega | (simp only [Gm, orI, Q7g, Xf, Q1l, Q3u]; omega)) rfl (by simp) ?_
  show Exists _;exact ⟨(n3, (wrap .i64 (i77 + 1)), ((l78 : List Int).set (Int.toNat i77) (wrap .i64 (y80 + 1)))), h, Lg _, (fun i => i), Vf⟩
 refine cP h Ji (.cons (Frz.agg' (Y5 (f2_ (f1_ (.cons (.p _) p5))))) (.cons (Frz.agg' (Y5 (f2_ (f1_ (.cons (.p _) p5))))) .nil)) fun v84 h => ?_;cases h; exact (.p _)
end
end
end Go.Av
