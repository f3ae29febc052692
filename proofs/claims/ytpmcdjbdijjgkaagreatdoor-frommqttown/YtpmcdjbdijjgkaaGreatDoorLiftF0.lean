/- Part of the proof of FrommqttOwn: for every input the law returns true; no condition. -/
import Derived.Test.YtpmcdjbdijjgkaaGreatDoorLiftTy
import Derived.Test.YtpmcdjbdijjgkaaGreatDoorChks
import Derived.Test.YtpmcdjbdijjgkaaGreatDoorSeat1
import Derived.Test.YtpmcdjbdijjgkaaGreatDoorKn1
import Derived.Test.YtpmcdjbdijjgkaaGreatDoorRound
import Derived.Test.YtpmcdjbdijjgkaaGreatDoorMan06
import Derived.Test.YtpmcdjbdijjgkaaGreatDoorPJoin
import Derived.Test.YtpmcdjbdijjgkaaGreatDoorClones
open Go.IntKind (wrap)
namespace Go.Av
noncomputable section
open Go.Proofs
set_option maxRecDepth 100000
set_option maxHeartbeats 4000000
attribute [local irreducible] Wc Yz Q80 Qcj Qmw Qmb Qda
section
abbrev pU := Q3l Tryz.prog G1
abbrev gU := GC Tryz.prog G1
def Je (_N : Nat) : Option (Q3) :=
 some (⟨3, false, false, 0, 0, [97, 47, 98], [104, 105], false, 0, [], false, [], false, [], false, (⟨[], [], 0, false, []⟩ : Xe), false, 0, [], [], []⟩ : Q3)
theorem Q2f {N} {r} (h : Je N = some r) : pU 10 [] (.agg (Q3.cells r)) := by
 refine Q0 k10 ?_;unfold Je at h;obtain rfl := Qo h; exact (Frz.agg' (Y5 (f2_ (f1_ (.cons (.nil _) (f2_ (.cons (.nil _) (.cons (.nil _) (.cons (.nil _) .nil)))))))))
def Q00 (N : Nat) (p : Q3) : Option (Q3) :=
 (Q25 N p.Codes).bind fun v1 =>
 (Jz N p.Filters).bind fun v3 =>
 (J0 N p.Props).bind fun v5 =>
 (J0 N p.Will.Props).bind fun v7 =>
 some (⟨p.Kind, p.Dup, p.Retain, p.QoS, p.ID, p.Topic, p.Payload, p.Clean, p.KeepAlive, p.Client, p.HasUser, p.User, p.HasPass, p.Pass, p.HasWill, (⟨p.Will.Topic, p.Will.Payload, p.Will.QoS, p.Will.Retain, v7⟩ : Xe), p.Session, p.Code, v1, v3, v5⟩ : Q3)
theorem Q8i {N} {p} {r} (h : Q00 N p = some r) : gU 25 (.p (.agg (Q3.cells p)) :: []) [] (.agg (Qis r (.slice 4 0 0 r.Will.Props.length) (.slice 1 1 0 r.Codes.length) (.slice 5 2 0 r.Filters.length) (.slice 4 3 0 r.Props.length))) (.cells (Y4 Q1.cells r.Will.Props) :: .cells (Y4 (cI .i64) r.Codes) :: .cells (Y4 Q2.cells r.Filters) :: .cells (Y4 Q1.cells r.Props) :: []) := by
 refine Ww k25 (Lp rfl) ?_;unfold Q00 at h;refine Z1 ?_;refine dcO h Q92 [2] (fun v1 => .slice 1 2 0 v1.length) (rE rfl <| rN) fun v1 h => ?_;refine dcO h Q4k [3] (fun v3 => .slice 5 3 0 v3.length) (rE rfl <| rN) fun v3 h => ?_;refine Z1 ?_;refine dcO h Gj [4] (fun v5 => .slice 4 4 0 v5.length) (rE rfl <| rN) fun v5 h => ?_;refine dcO h Gj [5] (fun v7 => .slice 4 5 0 v7.length) (rE rfl <| rN) fun v7 h => ?_;obtain rfl := Qo h;show Exists _;exact ⟨(rho [5, 2, 3, 4]), ⟨(rG (rE rfl <| rE rfl <| rE rfl <| rE rfl <| rE rfl <| rE rfl <| rE rfl <| rE rfl <| rE rfl <| rE rfl <| rE rfl <| rE rfl <| rE rfl <| rE rfl <| rE rfl <| rE rfl <| rE rfl <| rE rfl <| rE rfl <| rE rfl <| rE rfl <| rE rfl <| rE rfl <| rE rfl <| rE rfl <| rN) <| rN), (hO rfl <| hO rfl <| hO rfl <| hO rfl <| hN), rfl, rfl, (roE (Qd _ _ _) <| roE (Qd _ _ _) <| roE (Qd _ _ _) <| roE (Qd _ _ _) <| roN)⟩⟩
def W5 (rz : Q5 → Option Q5) (N : Nat) (v : Q5) : Nat → Int → (List Q5) → Option Q5
 | 0, _, _ => none
 | n + 1, s14, l15 =>
  cond (Q7 .lss s14 ((Q5.rows v.Items).length : Int))
  ((idx v.Items s14).bind fun y17 =>
  (rz y17).bind fun v19 =>
  cond (Nat.ble ((l15.length + 1 + 4096) * 56) 17592186044416) (W5 rz N v n (wrap .i64 (s14 + 1)) (l15 ++ [v19])) none)
  (some (⟨v.Kind, v.N', v.Text, l15⟩ : Q5))
def Q0c (rz : Q5 → Option Q5) (N : Nat) (v : Q5) : Option Q5 :=
 W5 rz N v N 0 []
theorem Q5m {rz : Q5 → Option Q5} (hy1 : ∀ {v} {r}, rz v = some r → pU 26 [.agg (Q5.cells v)] (.agg (Q5.cells r))) {N} {v} {r} (h : Q0c rz N v = some r) : pU 26 [.agg (Q5.cells v)] (.agg (Q5.cells r)) := by
 refine Q0 k26 ?_;unfold Q0c at h;refine lpA (τ := Int × (List Q5)) (fun ⟨s14, _⟩ => (.any :: .any :: .ptr 1 0 :: .ptr 2 0 :: a8 (a2 (.p (.slice 4 (Q5.rows v.Items)) :: iI ((Q5.rows v.Items).length : Int) :: iI s14 :: a8 (a4 ([])))) : List AV)) (fun ⟨_, l15⟩ => (.cells (iI v.Kind :: iW v.N' :: iS v.Text :: .p (.slice 4 (Q5.rows v.Items)) :: []) :: .cells (iI 0 :: iW 0 :: iS [] :: .p .nilSlice :: []) :: .cells (iI v.Kind :: iW v.N' :: iS v.Text :: .slice 4 3 0 l15.length :: []) :: .cells (Y4 Q5.cells l15) :: [] : List AObj)) (fun n0 ⟨s14, l15⟩ => W5 rz N v n0 s14 l15) (0, []) h fun n0 ⟨s14, l15⟩ h => ?_
 first | rw [W5] at h | simp only [W5] at h
 rw [cX] at h;apply iU h <;> intro h
 ·refine Q5.xR h fun y17 h => ?_;refine Z1 ?_;refine cD h hy1 (.cons q4 .nil) fun v19 h => ?_;obtain ⟨hk21, h⟩ := Q12 h;refine Wt (Zn (c := Q5.cells) (e := 4) (fun _ => rfl) sd hk21) ?_;refine Gb (c := Q5.cells) [v19] rfl ?_;show Exists _;exact ⟨(n0, (wrap .i64 (s14 + 1)), (l15 ++ [v19])), h, Lg _, (rho [0, 1, 2, 6]), Vf⟩
 obtain rfl := Qo h; exact (Frz.agg' (f2_ (f1_ (.cons (Q5.frz_own (l := l15) rfl trivial sd) .nil))))
def Jg : Nat → Q5 → Option Q5
 | 0 => fun _ => none
 | N + 1 => Q0c (Jg N) N
theorem Q4n {N} {v} {r} (h : Jg N v = some r) : pU 26 [.agg (Q5.cells v)] (.agg (Q5.cells r)) := by
 induction N generalizing v r with
 | zero => simp [Jg] at h
 | succ N ih => exact Q5m (fun h => ih h) h
def Vg (N : Nat) (e : Yn) (v1 : List Q1) (v3 : List Q1g) (v5 : Q3) : Nat → Int → (List Q5) → Option Yn
 | 0, _, _ => none
 | n + 1, s20, l21 =>
  cond (Q7 .lss s20 ((Q5.rows e.Frame.Values).length : Int))
  ((idx e.Frame.Values s20).bind fun y23 =>
  (Jg N y23).bind fun v25 =>
  cond (Nat.ble ((l21.length + 1 + 4096) * 56) 17592186044416) (Vg N e v1 v3 v5 n (wrap .i64 (s20 + 1)) (l21 ++ [v25])) none)
  (some (⟨e.Proto, e.Kind, e.Topic, e.Payload, e.QoS, e.Retain, e.Dup, e.ID, v1, e.Type', v3, e.Channel, v5, e.Msg, (⟨e.Frame.Type', e.Frame.Channel, e.Frame.Ext, l21⟩ : Vz)⟩ : Yn))
def Vw (N : Nat) (e : Yn) : Option Yn :=
 (J0 N e.Props).bind fun v1 =>
 (Q26 N e.Hops).bind fun v3 =>
 (Q00 N e.Packet).bind fun v5 =>
 Vg N e v1 v3 v5 N 0 []
theorem Uo {N} {e} {r} (h : Vw N e = some r) : gU 16 (.p (.agg (Yn.cells e)) :: []) [] (.agg (Qga r (.slice 4 0 0 r.Props.length) (.slice 2 1 0 r.Hops.length) (.slice 4 2 0 r.Packet.Will.Props.length) (.slice 1 3 0 r.Packet.Codes.length) (.slice 5 4 0 r.Packet.Filters.length) (.slice 4 5 0 r.Packet.Props.length) (.slice 4 6 0 r.Frame.Values.length))) (.cells (Y4 Q1.cells r.Props) :: .cells (Y4 Q1g.cells r.Hops) :: .cells (Y4 Q1.cells r.Packet.Will.Props) :: .cells (Y4 (cI .i64) r.Packet.Codes) :: .cells (Y4 Q2.cells r.Packet.Filters) :: .cells (Y4 Q1.cells r.Packet.Props) :: .cells (Y4 Q5.cells r.Frame.Values) :: []) := by
 refine Ww k16 (Lp rfl) ?_;unfold Vw at h;refine cO h Gj (fun v1 => .slice 4 3 0 v1.length) (rE rfl <| rN) fun v1 h => ?_;refine cO h Q7w (fun v3 => .slice 2 4 0 v3.length) (rE rfl <| rN) fun v3 h => ?_;refine cO h Q8i (fun v5 => .agg (Qiq v5 (.slice 4 5 0 v5.Will.Props.length) (.slice 1 6 0 v5.Codes.length) (.slice 5 7 0 v5.Filters.length) (.slice 4 8 0 v5.Props.length))) (rF (Frz.agg' (Y5 (f2_ (f1_ (.cons (.p _) p5))))) <| rN) fun v5 h => ?_;refine lpA (τ := Int × (List Q5)) (fun ⟨s20, _⟩ => (.any :: .any :: .ptr 1 0 :: .ptr 2 0 :: a16 (a2 (.any :: .p (.slice 4 (Q5.rows e.Frame.Values)) :: iI ((Q5.rows e.Frame.Values).length : Int) :: iI s20 :: a8 (a4 (a2 ([]))))) : List AV)) (fun ⟨_, l21⟩ => (.cells (Qky e ([])) :: .cells (iI 0 :: iI 0 :: iS [] :: iS [] :: iI 0 :: .p (.bool false) :: .p (.bool false) :: iI 0 :: .p .nilSlice :: iI 0 :: .p .nilSlice :: iI 0 :: iI 0 :: .p (.bool false) :: .p (.bool false) :: iI 0 :: iI 0 :: iS [] :: iS [] :: .p (.bool false) :: iI 0 :: iS [] :: .p (.bool false) :: iS [] :: .p (.bool false) :: iS [] :: .p (.bool false) :: iS [] :: iS [] :: iI 0 :: .p (.bool false) :: .p .nilSlice :: .p (.bool false) :: iI 0 :: .p .nilSlice :: .p .nilSlice :: .p .nilSlice :: iI 0 :: .p (.bool false) :: iI 0 :: .p (.bool false) :: .p (.bool false) :: .p (.bool false) :: iI 0 :: iI 0 :: iI 0 :: iI 0 :: .p (.bool false) :: iI 0 :: iI 0 :: iI 0 :: iS [] :: iS [] :: iI 0 :: iI 0 :: iS [] :: .p .nilSlice :: []) :: .cells (iI e.Proto :: iI e.Kind :: iS e.Topic :: iS e.Payload :: iI e.QoS :: .p (.bool e.Retain) :: .p (.bool e.Dup) :: iI e.ID :: .slice 4 3 0 v1.length :: iI e.Type' :: .slice 2 4 0 v3.length :: iI e.Channel :: Qj5 v5 (.slice 4 5 0 v5.Will.Props.length) (.slice 1 6 0 v5.Codes.length) (.slice 5 7 0 v5.Filters.length) (.slice 4 8 0 v5.Props.length) (Qor e.Msg (iI e.Frame.Type' :: iI e.Frame.Channel :: iS e.Frame.Ext :: .slice 4 9 0 l21.length :: []))) :: .cells (Y4 Q1.cells v1) :: .cells (Y4 Q1g.cells v3) :: .cells (Y4 Q1.cells v5.Will.Props) :: .cells (Y4 (cI .i64) v5.Codes) :: .cells (Y4 Q2.cells v5.Filters) :: .cells (Y4 Q1.cells v5.Props) :: .cells (Y4 Q5.cells l21) :: [] : List AObj)) (fun n0 ⟨s20, l21⟩ => Vg N e v1 v3 v5 n0 s20 l21) (0, []) h fun n0 ⟨s20, l21⟩ h => ?_
 first | rw [Vg] at h | simp only [Vg] at h
 rw [cX] at h;apply iU h <;> intro h
 ·refine Q5.xR h fun y23 h => ?_;refine Z1 ?_;refine cD h Q4n (.cons q4 .nil) fun v25 h => ?_;obtain ⟨hk27, h⟩ := Q12 h;refine Wt (Zn (c := Q5.cells) (e := 4) (fun _ => rfl) sd hk27) ?_;refine Gb (c := Q5.cells) [v25] rfl ?_;show Exists _;exact ⟨(n0, (wrap .i64 (s20 + 1)), (l21 ++ [v25])), h, Lg _, (rho [0, 1, 2, 3, 4, 5, 6, 7, 8, 12]), Vf⟩
 obtain rfl := Qo h;show Exists _;exact ⟨(rho [3, 4, 5, 6, 7, 8, 9]), ⟨(rG (rE rfl <| rE rfl <| rE rfl <| rE rfl <| rE rfl <| rE rfl <| rE rfl <| rE rfl <| rE rfl <| rE rfl <| rE rfl <| rE rfl <| rE rfl <| rE rfl <| rE rfl <| rE rfl <| rE rfl <| rE rfl <| rE rfl <| rE rfl <| rE rfl <| rE rfl <| rE rfl <| rE rfl <| rE rfl <| rE rfl <| rE rfl <| rE rfl <| rE rfl <| rE rfl <| rE rfl <| rE rfl <| rE rfl <| rE rfl <| rE rfl <| rE rfl <| rE rfl <| rE rfl <| rE rfl <| rE rfl <| rE rfl <| rE rfl <| rE rfl <| rE rfl <| rE rfl <| rE rfl <| rE rfl <| rE rfl <| rE rfl <| rE rfl <| rE rfl <| rE rfl <| rE rfl <| rE rfl <| rE rfl <| rE rfl <| rE rfl <| rN) <| rN), (hO rfl <| hO rfl <| hO rfl <| hO rfl <| hO rfl <| hO rfl <| hO rfl <| hN), rfl, rfl, (roE (Qd _ _ _) <| roE (Qd _ _ _) <| roE (Qd _ _ _) <| roE (Qd _ _ _) <| roE (Qd _ _ _) <| roE (Qd _ _ _) <| roE (Qd _ _ _) <| roN)⟩⟩
def Gf (_N : Nat) (version : Int) : Option (Int × Bool) :=
 cond (Q7 .eql version 4)
 (some (1, true))
 (cond (Q7 .eql version 5)
 (some (2, true))
 (some (0, false)))
theorem Q0a {N} {version} {r} (h : Gf N version = some r) : pU 12 [.int .i64 version] (.tuple [.int .i64 r.1, .bool r.2]) := by
 refine Q0 k12 ?_;unfold Gf at h;rw [cX] at h;refine iL2 h fun h => ?_;exact iB2 h
def F_prop_rules_tab : List (Int × Qc) := [(1, (⟨1, 65544, 0, 1⟩ : Qc)), (2, (⟨3, 65544, 0, 4294967295⟩ : Qc)), (3, (⟨5, 65544, 0, 0⟩ : Qc)), (8, (⟨5, 65544, 0, 0⟩ : Qc)), (9, (⟨6, 65544, 0, 0⟩ : Qc)), (11, (⟨4, 264, 1, 268435455⟩ : Qc)), (17, (⟨3, 16390, 0, 4294967295⟩ : Qc)), (18, (⟨5, 4, 0, 0⟩ : Qc)), (19, (⟨2, 4, 0, 65535⟩ : Qc)), (21, (⟨5, 32774, 0, 0⟩ : Qc)), (22, (⟨6, 32774, 0, 0⟩ : Qc)), (23, (⟨1, 2, 0, 1⟩ : Qc)), (24, (⟨3, 65536, 0, 4294967295⟩ : Qc)), (25, (⟨1, 2, 0, 1⟩ : Qc)), (26, (⟨5, 4, 0, 0⟩ : Qc)), (28, (⟨5, 16388, 0, 0⟩ : Qc)), (31, (⟨5, 51956, 0, 0⟩ : Qc)), (33, (⟨2, 6, 1, 65535⟩ : Qc)), (34, (⟨2, 6, 0, 65535⟩ : Qc)), (35, (⟨2, 8, 1, 65535⟩ : Qc)), (36, (⟨1, 4, 0, 1⟩ : Qc)), (37, (⟨1, 4, 0, 1⟩ : Qc)), (38, (⟨7, 118782, 0, 0⟩ : Qc)), (39, (⟨3, 6, 1, 4294967295⟩ : Qc)), (40, (⟨1, 4, 0, 1⟩ : Qc)), (41, (⟨1, 4, 0, 1⟩ : Qc)), (42, (⟨1, 4, 0, 1⟩ : Qc))]
theorem Q8v : pU 102 [] (.pmap (Qpv (fun v => .agg (Qc.cells v)) F_prop_rules_tab)) := X8 Q31 (N := 2000) (d := 60) (by kernel_rfl)
def Vu (_N : Nat) (s_0 : List UInt8) : Option Bool :=
 cond (Q7 .geq (s_0.length : Int) 3)
 (cond (Nat.ble 0 3 && Nat.ble 3 s_0.length) (some (Gp .eql ((s_0.take 3).drop 0) [239, 191, 189])) none)
 (some false)
theorem Q5e {N} {s_0} {r} (h : Vu N s_0 = some r) : pU 165 [.str s_0] (.bool r) := by
 refine Q0 Qv7 ?_;unfold Vu at h;rw [cX, cY] at h;refine iR h fun h => ?_;refine kU h fun h => ?_;cases h; exact (.p _)
def Yl (N : Nat) (s_0 : List UInt8) : Nat → Nat → Option Int
 | 0, _ => none
 | n + 1, pos16 =>
  cond (Nat.blt pos16 s_0.length)
  (cond (Q7 .eql (((Q5w s_0 pos16).1 : Nat) : Int) 0)
  (some ((pos16 : Nat) : Int))
  (cond (Q7 .eql (((Q5w s_0 pos16).1 : Nat) : Int) 65533)
  (cond (Nat.ble pos16 s_0.length && Nat.ble s_0.length s_0.length) ((Vu N ((s_0.take s_0.length).drop pos16)).bind fun v21 =>
  cond (!v21)
  (some ((pos16 : Nat) : Int))
  (Yl N s_0 n (pos16 + (Q5w s_0 pos16).2))) none)
  (Yl N s_0 n (pos16 + (Q5w s_0 pos16).2))))
  (some (-1))
def Gs (N : Nat) (s_0 : List UInt8) : Option Int :=
 Yl N s_0 N 0
theorem Q7c {N} {s_0} {r} (h : Gs N s_0 = some r) : pU 136 [.str s_0] (.int .i64 r) := by
 refine Q0 Qs6 ?_;unfold Gs at h;refine lpA (τ := Nat) (fun _ => (iS s_0 :: a4 (.any :: .ptr 0 0 :: a16 (a2 ([]))) : List AV)) (fun pos16 => (.strIter s_0 pos16 :: [] : List AObj)) (fun n0 pos16 => Yl N s_0 n0 pos16) (0) h fun n0 pos16 h => ?_
 first | rw [Yl] at h | simp only [Yl] at h
 rw [cX] at h;refine iR h fun h => ?_;refine iL h fun h => ?_;apply iU h <;> intro h
 ·refine kU h fun h => ?_;refine cP h Q5e p1 fun v21 h => ?_;refine iL h fun h => ?_;show Exists _;exact ⟨(n0, (pos16 + (Q5w s_0 pos16).2)), h, Lg _, (fun i => i), Vf⟩
 show Exists _;exact ⟨(n0, (pos16 + (Q5w s_0 pos16).2)), h, Lg _, (fun i => i), Vf⟩
def Qx (N : Nat) (s_0 : List UInt8) : Option Bool :=
 cond (Q7 .leq (s_0.length : Int) 65535)
 ((Gs N s_0).bind fun v2 =>
 some (Q7 .eql v2 (-1)))
 (some false)
theorem Zb {N} {s_0} {r} (h : Qx N s_0 = some r) : pU 91 [.str s_0] (.bool r) := by
 refine Q0 k91 ?_;unfold Qx at h;rw [cX] at h;refine iR h fun h => ?_;refine cP h Q7c p1 fun v2 h => ?_;cases h; exact (.p _)
def G8 (N : Nat) (s_0 : List UInt8) : Option Bool :=
 cond (Gp .neq s_0 [])
 ((Qx N s_0).bind fun v2 =>
 some v2)
 (some false)
theorem Q2z {N} {s_0} {r} (h : G8 N s_0 = some r) : pU 137 [.str s_0] (.bool r) := by
 refine Q0 Qsf ?_;unfold G8 at h;rw [cY] at h;refine iR h fun h => ?_;refine cP h Zb p1 fun v2 h => ?_;cases h; exact (.p _)
def Qf (_N : Nat) (s_0 : List UInt8) (c : Int) : Option Int :=
 some (Qad s_0 (UInt8.ofNat (Int.toNat c)) 0 : Int)
theorem Y6 {N} {s_0} {c} {r} (h : Qf N s_0 c = some r) : pU 210 [.str s_0, .int .u8 c] (.int .i64 r) := by
 refine Q0 Qtj ?_;unfold Qf at h;cases h; exact (.p _)
def Wy (N : Nat) (s_0 : List UInt8) (c : Int) : Option Int :=
 (Qf N s_0 c).bind fun v1 =>
 some v1
theorem Jn {N} {s_0} {c} {r} (h : Wy N s_0 c = some r) : pU 201 [.str s_0, .int .u8 c] (.int .i64 r) := by
 refine Q0 Qti ?_;unfold Wy at h;refine cP h Y6 p2 fun v1 h => ?_;cases h; exact (.p _)
def Y7 (_N : Nat) (r_0 : Int) : Option Bool :=
 cond (Q7 .leq 0 r_0)
 (cond (Q7 .lss r_0 55296)
 (some true)
 (cond (Q7 .lss 57343 r_0)
 (cond (Q7 .leq r_0 1114111)
 (some true)
 (some false))
 (some false)))
 (cond (Q7 .lss 57343 r_0)
 (cond (Q7 .leq r_0 1114111)
 (some true)
 (some false))
 (some false))
theorem Q0d {N} {r_0} {r} (h : Y7 N r_0 = some r) : pU 202 [.int .i32 r_0] (.bool r) := by
 refine Q0 Qrs ?_;unfold Y7 at h;rw [cX] at h;apply iU h <;> intro h
 ·refine iL h fun h => ?_;refine iR h fun h => ?_;exact iB h
 refine iR h fun h => ?_;exact iB h
def Z2 (N : Nat) (s_0 : List UInt8) : Nat → Nat → Option Int
 | 0, _ => none
 | n + 1, pos13 =>
  cond (Nat.blt pos13 s_0.length)
  (cond (Q7 .eql (((Q5w s_0 pos13).1 : Nat) : Int) 65533)
  (some ((pos13 : Nat) : Int))
  (Z2 N s_0 n (pos13 + (Q5w s_0 pos13).2)))
  (some (-1))
def Yr (N : Nat) (s_0 : List UInt8) (r_1 : Int) (v82 : Int) : Nat → Int → Option Int
 | 0, _ => none
 | n + 1, j98 =>
  cond (Q7 .lss j98 (((Utf8.encode r_1).data.toList).length : Int))
  ((idx s_0 (wrap .i64 ((wrap .i64 ((wrap .i64 ((((Utf8.encode r_1).data.toList).length : Int) - 1)) + (wrap .i64 (v82 + 1)))) - j98))).bind fun b100 =>
  (idx ((Utf8.encode r_1).data.toList) (wrap .i64 ((wrap .i64 ((((Utf8.encode r_1).data.toList).length : Int) - 1)) - j98))).bind fun b102 =>
  cond (Q7 .neq (b100.toNat : Int) (b102.toNat : Int))
  (none)
  (Yr N s_0 r_1 v82 n (wrap .i64 (j98 + 1))))
  (some (wrap .i64 ((wrap .i64 ((wrap .i64 ((((Utf8.encode r_1).data.toList).length : Int) - 1)) + (wrap .i64 (v82 + 1)))) - (wrap .i64 ((((Utf8.encode r_1).data.toList).length : Int) - 1)))))
def Ys (N : Nat) (s_0 : List UInt8) (r_1 : Int) : Nat → Int → Option Int
 | 0, _ => none
 | n + 1, j118 =>
  cond (Q7 .lss j118 (((Utf8.encode r_1).data.toList).length : Int))
  ((idx s_0 (wrap .i64 ((wrap .i64 ((((Utf8.encode r_1).data.toList).length : Int) - 1)) - j118))).bind fun b120 =>
  (idx ((Utf8.encode r_1).data.toList) (wrap .i64 ((wrap .i64 ((((Utf8.encode r_1).data.toList).length : Int) - 1)) - j118))).bind fun b122 =>
  cond (Q7 .neq (b120.toNat : Int) (b122.toNat : Int))
  (none)
  (Ys N s_0 r_1 n (wrap .i64 (j118 + 1))))
  (some (wrap .i64 ((wrap .i64 ((((Utf8.encode r_1).data.toList).length : Int) - 1)) - (wrap .i64 ((((Utf8.encode r_1).data.toList).length : Int) - 1)))))
def Y3 (N : Nat) (s_0 : List UInt8) (r_1 : Int) : Nat → Option Int
 | 0 => none
 | n + 1 =>
  cond (Q7 .lss (wrap .i64 ((((Utf8.encode r_1).data.toList).length : Int) - 1)) (s_0.length : Int))
  ((idx s_0 (wrap .i64 ((((Utf8.encode r_1).data.toList).length : Int) - 1))).bind fun b73 =>
  (idx ((Utf8.encode r_1).data.toList) (wrap .i64 ((((Utf8.encode r_1).data.toList).length : Int) - 1))).bind fun b75 =>
  cond (Q7 .neq (b73.toNat : Int) (b75.toNat : Int))
  (cond (decide (0 ≤ (wrap .i64 ((wrap .i64 ((((Utf8.encode r_1).data.toList).length : Int) - 1)) + 1)))) (cond (Nat.ble (wrap .i64 ((wrap .i64 ((((Utf8.encode r_1).data.toList).length : Int) - 1)) + 1)).toNat s_0.length && Nat.ble s_0.length s_0.length) ((idx ((Utf8.encode r_1).data.toList) (wrap .i64 ((((Utf8.encode r_1).data.toList).length : Int) - 1))).bind fun b80 =>
  (Wy N ((s_0.take s_0.length).drop ((wrap .i64 ((wrap .i64 ((((Utf8.encode r_1).data.toList).length : Int) - 1)) + 1)).toNat)) (b80.toNat : Int)).bind fun v82 =>
  cond (Q7 .lss v82 0)
  (some (-1))
  (Yr N s_0 r_1 v82 N 1)) none) none)
  (Ys N s_0 r_1 N 1))
  (some (-1))
def Yt (N : Nat) (s_0 : List UInt8) (r_1 : Int) (s2 : Bool) : Option Int :=
 cond s2
 ((Wy N s_0 (wrap .u8 r_1)).bind fun v5 =>
 some v5)
 (cond (Q7 .eql r_1 65533)
 (Z2 N s_0 N 0)
 ((Y7 N r_1).bind fun v16 =>
 cond (!v16)
 (some (-1))
 (Y3 N s_0 r_1 N)))
def V2 (N : Nat) (s_0 : List UInt8) (r_1 : Int) : Option Int :=
 cond (Q7 .leq 0 r_1)
 (Yt N s_0 r_1 (Q7 .lss r_1 128))
 (Yt N s_0 r_1 false)
theorem Q2a {N} {s_0} {r_1} {r} (h : V2 N s_0 r_1 = some r) : pU 189 [.str s_0, .int .i32 r_1] (.int .i64 r) := by
 refine Q0 Qvj ?_;unfold V2 at h;rw [cX] at h;refine jrH (r := r) (σ := Bool) (fun s2 => (iS s_0 :: .p (.int .i32 r_1) :: a16 (a16 (a16 (a16 (a16 (a16 (a16 (a16 (a16 (a8 (a4 (a2 (.p (.bool s2) :: a16 (a8 (a2 ([]))))))))))))))) : List AV)) (fun s2 => Yt N s_0 r_1 s2) ?_ ?_
 ·apply iU h <;> intro h
  ·show Exists _;exact ⟨((Qn1 .lss r_1 128)), h, (fun i => i), Vf⟩
  show Exists _;exact ⟨(false), h, (fun i => i), Vf⟩
 rintro s2 h
 unfold Yt at h;rw [cX] at h;apply iU h <;> intro h
 ·refine cP h Jn p2 fun v5 h => ?_;cases h; exact (.p _)
 apply iU h <;> intro h
 ·refine lpA (τ := Nat) (fun _ => (a16 (a16 (a16 (a16 (a16 (a16 (a16 (a16 (a16 (a16 (a8 (a4 (a2 (.any :: .ptr 0 0 :: a8 (a2 (.any :: []))))))))))))))) : List AV)) (fun pos13 => (.strIter s_0 pos13 :: [] : List AObj)) (fun n1 pos13 => Z2 N s_0 n1 pos13) (0) h fun n1 pos13 h => ?_
  first | rw [Z2] at h | simp only [Z2] at h
  rw [cX] at h;refine iR h fun h => ?_;refine iL h fun h => ?_;show Exists _;exact ⟨(n1, (pos13 + (Q5w s_0 pos13).2)), h, Lg _, (fun i => i), Vf⟩
 refine cP h Q0d p1 fun v16 h => ?_;refine iL h fun h => ?_;refine lpH (τ := Unit) (fun _ => (iS s_0 :: a4 (a2 (iS ((Utf8.encode r_1).data.toList) :: .p (.int .i64 (wrap .i64 ((((Utf8.encode r_1).data.toList).length : Int) - 1))) :: .p (.int .i64 (wrap .i64 ((((Utf8.encode r_1).data.toList).length : Int) - 1))) :: a16 (a16 (a16 (a16 (a16 (a16 (a16 (a16 (a16 (a16 (a16 (.any :: []))))))))))))) : List AV)) (fun n2 ⟨⟩ => Y3 N s_0 r_1 n2) () h fun n2 ⟨⟩ h => ?_
 first | rw [Y3] at h | simp only [Y3] at h
 rw [cX] at h;refine iR h fun h => ?_;refine Z1 ?_;refine xB h fun b73 h => ?_;refine xB h fun b75 h => ?_;apply iU h <;> intro h
 ·refine Z1 ?_;refine kU h fun h => ?_;refine kU h fun h => ?_;refine xB h fun b80 h => ?_;refine cD h Jn p2 fun v82 h => ?_;refine iL h fun h => ?_;refine lpH (τ := Int) (fun j98 => (iS s_0 :: a4 (a2 (iS ((Utf8.encode r_1).data.toList) :: .p (.int .i64 (wrap .i64 ((((Utf8.encode r_1).data.toList).length : Int) - 1))) :: .p (.int .i64 (wrap .i64 ((wrap .i64 ((((Utf8.encode r_1).data.toList).length : Int) - 1)) + (wrap .i64 (v82 + 1))))) :: .any :: .any :: iI j98 :: a16 (a16 (a16 (a16 (a16 (a16 (a16 (a16 (a16 (a16 (a8 (a4 (a2 ([]))))))))))))))) : List AV)) (fun n3 j98 => Yr N s_0 r_1 v82 n3 j98) (1) h fun n3 j98 h => ?_
  first | rw [Yr] at h | simp only [Yr] at h
  rw [cX] at h;refine iR h fun h => ?_;refine Z1 ?_;refine xB h fun b100 h => ?_;refine xB h fun b102 h => ?_;apply iU h <;> intro h
  ·first | (cases h; done) | (simp [Qi2] at h; done)
  show Exists _;exact ⟨(n3, (wrap .i64 (j98 + 1))), h, Lg _, (fun i => i), Vf⟩
 refine lpH (τ := Int) (fun j118 => (iS s_0 :: a4 (a2 (iS ((Utf8.encode r_1).data.toList) :: .p (.int .i64 (wrap .i64 ((((Utf8.encode r_1).data.toList).length : Int) - 1))) :: .p (.int .i64 (wrap .i64 ((((Utf8.encode r_1).data.toList).length : Int) - 1))) :: .any :: .any :: iI j118 :: a16 (a16 (a16 (a16 (a16 (a16 (a16 (a16 (a16 (a16 (a8 (a4 (a2 ([]))))))))))))))) : List AV)) (fun n4 j118 => Ys N s_0 r_1 n4 j118) (1) h fun n4 j118 h => ?_
 first | rw [Ys] at h | simp only [Ys] at h
 rw [cX] at h;refine iR h fun h => ?_;refine Z1 ?_;refine xB h fun b120 h => ?_;refine xB h fun b122 h => ?_;apply iU h <;> intro h
 ·first | (cases h; done) | (simp [Qi2] at h; done)
 show Exists _;exact ⟨(n4, (wrap .i64 (j118 + 1))), h, Lg _, (fun i => i), Vf⟩
def Xq (_N : Nat) (bufLen : Int) : Option Bool :=
 some (Q7 .gtr bufLen 8)
theorem Ga {N} {bufLen} {r} (h : Xq N bufLen = some r) : pU 190 [.int .i64 bufLen] (.bool r) := by
 refine Q0 Qw9 ?_;unfold Xq at h;rw [cX] at h;cases h; exact (.p _)
def Zo (N : Nat) (s_0 : List UInt8) : Nat → Int → Option Int
 | 0, _ => none
 | n + 1, i20 =>
  cond (Q7 .lss i20 (s_0.length : Int))
  ((idx s_0 i20).bind fun b22 =>
  cond (decide (0 ≤ (b22.toNat : Int)) && decide ((b22.toNat : Int) < ((256 : Nat) : Int))) ((idx ([false, false, false, false, false, false, false, false, false, false, false, false, false, false, false, false, false, false, false, false, false, false, false, false, false, false, false, false, false, false, false, false, false, false, false, true, false, false, false, false, false, false, false, true, false, false, false, false, false, false, false, false, false, false, false, false, false, false, false, false, false, false, false, false, false, false, false, false, false, false, false, false, false, false, false, false, false, false, false, false, false, false, false, false, false, false, false, false, false, false, false, false, false, false, false, false, false, false, false, false, false, false, false, false, false, false, false, false, false, false, false, false, false, false, false, false, false, false, false, false, false, false, false, false, false, false, false, false, false, false, false, false, false, false, false, false, false, false, false, false, false, false, false, false, false, false, false, false, false, false, false, false, false, false, false, false, false, false, false, false, false, false, false, false, false, false, false, false, false, false, false, false, false, false, false, false, false, false, false, false, false, false, false, false, false, false, false, false, false, false, false, false, false, false, false, false, false, false, false, false, false, false, false, false, false, false, false, false, false, false, false, false, false, false, false, false, false, false, false, false, false, false, false, false, false, false, false, false, false, false, false, false, false, false, false, false, false, false, false, false, false, false, false, false, false, false, false, false, false, false, false, false, false, false, false, false] : List Bool) (b22.toNat : Int)).bind fun y24 =>
  cond y24
  (some i20)
  (Zo N s_0 n (wrap .i64 (i20 + 1)))) none)
  (some (-1))
def Zp (N : Nat) (s_0 : List UInt8) : Nat → Nat → Option Int
 | 0, _ => none
 | n + 1, pos37 =>
  cond (Nat.blt pos37 s_0.length)
  ((V2 N [43, 35] (((Q5w s_0 pos37).1 : Nat) : Int)).bind fun v39 =>
  cond (Q7 .geq v39 0)
  (some ((pos37 : Nat) : Int))
  (Zp N s_0 n (pos37 + (Q5w s_0 pos37).2)))
  (some (-1))
def W8 (N : Nat) (s_0 : List UInt8) : Option Int :=
 cond (Gp .eql [43, 35] [])
 (some (-1))
 ((Xq N (s_0.length : Int)).bind fun v2 =>
 cond v2
 (Zo N s_0 N 0)
 (Zp N s_0 N 0))
theorem Q16 {N} {s_0} {r} (h : W8 N s_0 = some r) : pU 166 [.str s_0, .str [43, 35]] (.int .i64 r) := by
 refine Q0 Qu0 ?_;unfold W8 at h;rw [cY] at h;refine iL h fun h => ?_;refine dF ?_;refine cP h Ga p1 fun v2 h => ?_;apply iU h <;> intro h
 ·refine Xr Qvt ?_;refine Q45 4 ?_;refine dT ?_;refine dF ?_;refine dT ?_;refine dF ?_;refine dF ?_;refine lpH (τ := Int) (fun i20 => (iS s_0 :: a4 (.any :: .ptr 1 0 :: .any :: iI i20 :: a16 (a16 (a8 (a4 (a2 ([])))))) : List AV)) (fun n0 i20 => Zo N s_0 n0 i20) (0) h fun n0 i20 h => ?_
  first | rw [Zo] at h | simp only [Zo] at h
  rw [cX] at h;refine iR h fun h => ?_;refine xB h fun b22 h => ?_;refine Xr Qtk ?_;refine kU h fun h => ?_;obtain ⟨y24, hy25, h⟩ := Wq h
  refine Q0b (c := cB) (e := 1) (fun _ => rfl) hy25 (off := 0) (by decide) (by first | omega | (simp only [Gm, orI, Q7g, Xf, Q1l, Q3u]; omega)) ?_
  refine iL h fun h => ?_;show Exists _;exact ⟨(n0, (wrap .i64 (i20 + 1))), h, Lg _, (fun i => i), Vf⟩
 refine lpA (τ := Nat) (fun _ => (.any :: .p (.str [43, 35]) :: a16 (a16 (a8 (a2 (.any :: .ptr 0 0 :: a8 (.any :: []))))) : List AV)) (fun pos37 => (.strIter s_0 pos37 :: [] : List AObj)) (fun n1 pos37 => Zp N s_0 n1 pos37) (0) h fun n1 pos37 h => ?_
 first | rw [Zp] at h | simp only [Zp] at h
 rw [cX] at h;refine iR h fun h => ?_;refine cP h Q2a p2 fun v39 h => ?_;refine iL h fun h => ?_;show Exists _;exact ⟨(n1, (pos37 + (Q5w s_0 pos37).2)), h, Lg _, (fun i => i), Vf⟩
def Z3 (N : Nat) (s_0 : List UInt8) : Option Bool :=
 (W8 N s_0).bind fun v1 =>
 some (Q7 .geq v1 0)
theorem Xu {N} {s_0} {r} (h : Z3 N s_0 = some r) : pU 138 [.str s_0, .str [43, 35]] (.bool r) := by
 refine Q0 Qw2 ?_;unfold Z3 at h;rw [cX] at h;refine cP h Q16 p2 fun v1 h => ?_;cases h; exact (.p _)
def Y8 (N : Nat) (s_0 : List UInt8) : Option Bool :=
 (G8 N s_0).bind fun v1 =>
 cond v1
 ((Z3 N s_0).bind fun v4 =>
 some (!v4))
 (some false)
theorem Wp {N} {s_0} {r} (h : Y8 N s_0 = some r) : pU 92 [.str s_0] (.bool r) := by
 refine Q0 k92 ?_;unfold Y8 at h;refine cP h Q2z p1 fun v1 h => ?_;refine iR h fun h => ?_;refine cP h Xu p2 fun v4 h => ?_;cases h; exact (.p _)
def Xy (_N : Nat) (r_0 : Qc) (kind : Int) : Option Bool :=
 cond (Q7 .geq kind 1)
 (cond (Q7 .leq kind 16)
 (cond (decide (0 ≤ (wrap .u64 kind))) (some (Q7 .eql (Gm .i64 (Q3u .i64 r_0.kinds (wrap .u64 kind)) 1) 1)) none)
 (some false))
 (some false)
theorem Q4v {N} {r_0} {kind} {r} (h : Xy N r_0 kind = some r) : pU 149 [.agg (Qc.cells r_0), .int .i64 kind] (.bool r) := by
 refine Q0 Quy ?_;unfold Xy at h;rw [cX] at h;refine iR h fun h => ?_;refine iR h fun h => ?_;refine kU h fun h => ?_;cases h; exact (.p _)
def We (_N : Nat) (r_0 : Qc) (p : Q1) : Option Int :=
 cond (Gp .neq p.Text [])
 (some 2)
 (cond (Gp .neq p.Value [])
 (some 2)
 (cond (Q7 .lss p.N' r_0.least)
 (some 9)
 (cond (Q7 .gtr p.N' r_0.most)
 (some 9)
 (some 0))))
theorem Q35 {N} {r_0} {p} {r} (h : We N r_0 p = some r) : pU 150 [.agg (Qc.cells r_0), .agg (Q1.cells p)] (.int .i64 r) := by
 refine Q0 Qvl ?_;unfold We at h;rw [cX, cY] at h;refine iL h fun h => ?_;refine iL h fun h => ?_;refine iL h fun h => ?_;exact iB h
def Vx (N : Nat) (r_0 : Qc) (kind : Int) (p : Q1) : Option Int :=
 (Xy N r_0 kind).bind fun v1 =>
 cond (!v1)
 (some 9)
 (cond (Q7 .leq r_0.shape 4)
 ((We N r_0 p).bind fun v5 =>
 some v5)
 (cond (Q7 .neq p.N' 0)
 (some 2)
 (cond (Gp .neq p.Value [])
 (cond (Q7 .neq r_0.shape 7)
 (some 2)
 (cond (Q7 .eql r_0.shape 6)
 (cond (Q7 .gtr (p.Text.length : Int) 65535)
 (some 2)
 (some 0))
 ((Qx N p.Text).bind fun v12 =>
 cond (!v12)
 (some 6)
 ((Qx N p.Value).bind fun v15 =>
 cond (!v15)
 (some 6)
 (cond (Q7 .eql p.ID 8)
 ((Y8 N p.Text).bind fun v19 =>
 cond (!v19)
 (some 9)
 (some 0))
 (some 0))))))
 (cond (Q7 .eql r_0.shape 6)
 (cond (Q7 .gtr (p.Text.length : Int) 65535)
 (some 2)
 (some 0))
 ((Qx N p.Text).bind fun v24 =>
 cond (!v24)
 (some 6)
 ((Qx N p.Value).bind fun v27 =>
 cond (!v27)
 (some 6)
 (cond (Q7 .eql p.ID 8)
 ((Y8 N p.Text).bind fun v31 =>
 cond (!v31)
 (some 9)
 (some 0))
 (some 0))))))))
theorem Q2x {N} {r_0} {kind} {p} {r} (h : Vx N r_0 kind p = some r) : pU 103 [.agg (Qc.cells r_0), .int .i64 kind, .agg (Q1.cells p)] (.int .i64 r) := by
 refine Q0 Qtx ?_;unfold Vx at h;rw [cX, cY] at h;refine cP h Q4v (.cons q4 p1) fun v1 h => ?_;refine iL h fun h => ?_;apply iU h <;> intro h
 ·refine cP h Q35 (.cons q4 (.cons q4 .nil)) fun v5 h => ?_;cases h; exact (.p _)
 refine iL h fun h => ?_;apply iU h <;> intro h
 ·refine iL h fun h => ?_;apply iU h <;> intro h
  ·exact iB h
  refine cP h Zb p1 fun v12 h => ?_;refine iL h fun h => ?_;refine cP h Zb p1 fun v15 h => ?_;refine iL h fun h => ?_;refine iR h fun h => ?_;refine cP h Wp p1 fun v19 h => ?_;exact iB h
 apply iU h <;> intro h
 ·exact iB h
 refine cP h Zb p1 fun v24 h => ?_;refine iL h fun h => ?_;refine cP h Zb p1 fun v27 h => ?_;refine iL h fun h => ?_;refine iR h fun h => ?_;refine cP h Wp p1 fun v31 h => ?_;exact iB h
def J1 (_N : Nat) (kind : Int) (id : Int) : Option Bool :=
 cond (Q7 .eql id 38)
 (some true)
 (cond (Q7 .eql id 11)
 (some (Q7 .eql kind 3))
 (some false))
theorem Q2v {N} {kind} {id} {r} (h : J1 N kind id = some r) : pU 151 [.int .i64 kind, .int .i64 id] (.bool r) := by
 refine Q0 Qrn ?_;unfold J1 at h;rw [cX] at h;refine iL h fun h => ?_;exact iB h
def G7 (_N : Nat) (n_0 : Int) : Option Bool :=
 cond (Q7 .geq n_0 0)
 (some (Q7 .leq n_0 268435455))
 (some false)
theorem Q86 {N} {n_0} {r} (h : G7 N n_0 = some r) : pU 152 [.int .i64 n_0] (.bool r) := by
 refine Q0 Qvw ?_;unfold G7 at h;rw [cX] at h;exact iB h
def Yy (N : Nat) : Nat → Int → (List Int) → Option ((List UInt8) × Int)
 | 0, _, _ => none
 | n + 1, n9, l10 =>
  cond (Q7 .geq n9 128)
  (cond (Nat.ble ((l10.length + 1 + 4096) * 1) 17592186044416) (Yy N n (wrap .i64 ((n9 : Int).tdiv 128)) (l10 ++ [(orI .u8 (wrap .u8 ((n9 : Int).tmod 128)) 128)])) none)
  (cond (Nat.ble ((l10.length + 1 + 4096) * 1) 17592186044416) (some (((l10 ++ [(wrap .u8 n9)]).map fun n => UInt8.ofNat n.toNat), 0)) none)
def Wh (N : Nat) (n_0 : Int) : Option ((List UInt8) × Int) :=
 (G7 N n_0).bind fun v1 =>
 cond (!v1)
 (some ([], 2))
 (Yy N N n_0 [])
theorem Jq {N} {n_0} {r} (h : Wh N n_0 = some r) : pU 107 [.int .i64 n_0] (.tuple [.str r.1, .int .i64 r.2]) := by
 refine Q0 Qs4 ?_;unfold Wh at h;refine cP h Q86 p1 fun v1 h => ?_;refine iL2 h fun h => ?_;refine lpA (τ := Int × (List Int)) (fun ⟨n9, l10⟩ => (iI n9 :: a2 (.any :: .slice 1 0 0 l10.length :: a16 (a4 ([]))) : List AV)) (fun ⟨_, l10⟩ => (.cells (Y4 (cI .u8) l10) :: [] : List AObj)) (fun n0 ⟨n9, l10⟩ => Yy N n0 n9 l10) (n_0, []) h fun n0 ⟨n9, l10⟩ h => ?_
 first | rw [Yy] at h | simp only [Yy] at h
 rw [cX] at h;apply iU h <;> intro h
 ·obtain ⟨hk12, h⟩ := Q12 h;refine Wt (Zn (c := (cI .u8)) (e := 1) (fun _ => rfl) sd hk12) ?_;refine Gb (c := (cI .u8)) [(orI .u8 (wrap .u8 ((n9 : Int).tmod 128)) 128)] rfl ?_;show Exists _;exact ⟨(n0, (wrap .i64 ((n9 : Int).tdiv 128)), (l10 ++ [(orI .u8 (wrap .u8 ((n9 : Int).tmod 128)) 128)])), h, Lg _, (rho [2]), Vf⟩
 obtain ⟨hk13, h⟩ := Q12 h;refine Wt (Zn (c := (cI .u8)) (e := 1) (fun _ => rfl) sd hk13) ?_;refine Gb (c := (cI .u8)) [(wrap .u8 n9)] rfl ?_;refine Qd8 (l := (l10 ++ [(wrap .u8 n9)])) (n := (l10.length + 1)) sd ?_;obtain rfl := Qo h; exact u2
def X4 (N : Nat) (n_0 : Int) (size : Int) : Nat → Int → (List Int) → Option (List UInt8)
 | 0, _, _ => none
 | n + 1, s14, l15 =>
  cond (Q7 .lss s14 (ifB (decide (16 < size)) 16 size))
  (cond (Q7 .lss s14 8)
  (cond (decide (0 ≤ (wrap .u64 (wrap .i64 (8 * s14))))) ((idx (l15 : List Int) (wrap .i64 ((wrap .i64 ((ifB (decide (16 < size)) 16 size) - 1)) - s14))).bind fun y19 =>
  X4 N n_0 size n (wrap .i64 (s14 + 1)) ((l15 : List Int).set (Int.toNat (wrap .i64 ((wrap .i64 ((ifB (decide (16 < size)) 16 size) - 1)) - s14))) (wrap .u8 (Q3u .u64 n_0 (wrap .u64 (wrap .i64 (8 * s14))))))) none)
  (X4 N n_0 size n (wrap .i64 (s14 + 1)) l15))
  (some (l15.map fun n => UInt8.ofNat n.toNat))
def Zk (N : Nat) (n_0 : Int) (size : Int) : Option (List UInt8) :=
 cond (Q7 .leq size 0)
 (some [])
 (cond (decide (0 ≤ (ifB (decide (16 < size)) 16 size)) && decide ((ifB (decide (16 < size)) 16 size) ≤ (ifB (decide (16 < size)) 16 size)) && decide ((ifB (decide (16 < size)) 16 size) * 1 ≤ 1099511627776)) (X4 N n_0 size N 0 (List.replicate ((ifB (decide (16 < size)) 16 size) : Int).toNat (0 : Int))) none)
theorem Z6 {N} {n_0} {size} {r} (h : Zk N n_0 size = some r) : pU 54 [.int .u64 n_0, .int .i64 size] (.str r) := by
 refine Q0 k54 ?_;unfold Zk at h;rw [cX] at h;refine iL h fun h => ?_;refine kU h fun h => ?_;refine Qnz (c := (cI .u8)) (0 : Int) rfl ?_;refine lpC (τ := Int × (List Int)) (fun ⟨s14, l15⟩ => (iW n_0 :: .p (.int .i64 (ifB (decide (16 < size)) 16 size)) :: a2 (.any :: .slice 1 1 0 l15.length :: a4 (a2 (.any :: .p (.int .i64 (ifB (decide (16 < size)) 16 size)) :: iI s14 :: a16 (a2 (.any :: []))))) : List AV)) (fun ⟨_, l15⟩ => (.dead :: .cells (Y4 (cI .u8) l15) :: [] : List AObj)) (fun n0 ⟨s14, l15⟩ => X4 N n_0 size n0 s14 l15) (0, (List.replicate ((ifB (decide (16 < size)) 16 size) : Int).toNat (0 : Int))) h (rho [0, 0]) Vf fun n0 ⟨s14, l15⟩ h => ?_
 first | rw [X4] at h | simp only [X4] at h
 rw [cX] at h;apply iU h <;> intro h
 ·apply iU h <;> intro h
  ·refine kU h fun h => ?_;obtain ⟨y19, hy20, h⟩ := Wq h;refine Wt (Vl hy20 sd) ?_;refine Wt (Wo (c := (cI .u8)) (e := 1) (fun _ => rfl) hy20 (off := 0) (by omega) rfl (by decide)) ?_
   refine Wr (c := (cI .u8)) (e := 1) (fun _ => rfl) hy20 (wrap .u8 (Q3u .u64 n_0 (wrap .u64 (wrap .i64 (8 * s14))))) (off := 0) (by first | omega | (simp only [Gm, orI, Q7g, Xf, Q1l, Q3u]; omega)) rfl (by simp) ?_
   show Exists _;exact ⟨(n0, (wrap .i64 (s14 + 1)), ((l15 : List Int).set (Int.toNat (wrap .i64 ((wrap .i64 ((ifB (decide (16 < size)) 16 size) - 1)) - s14))) (wrap .u8 (Q3u .u64 n_0 (wrap .u64 (wrap .i64 (8 * s14))))))), h, Lg _, (fun i => i), Vf⟩
  show Exists _;exact ⟨(n0, (wrap .i64 (s14 + 1)), l15), h, Lg _, (fun i => i), Vf⟩
 refine Qd8 (l := l15) (n := l15.length) sd ?_;cases h; exact (.p _)
def W2 (N : Nat) (s_0 : List UInt8) : Option (List UInt8) :=
 (Zk N (wrap .u64 (s_0.length : Int)) 2).bind fun v1 =>
 cond (Nat.ble (v1.length + s_0.length) 4611686018427387904) (some (v1 ++ s_0)) none
theorem Q07 {N} {s_0} {r} (h : W2 N s_0 = some r) : pU 113 [.str s_0] (.str r) := by
 refine Q0 Qtd ?_;unfold W2 at h;refine cP h Z6 p2 fun v1 h => ?_;refine kU h fun h => ?_;cases h; exact (.p _)
def W1 (N : Nat) (s_0 : List UInt8) : Option ((List UInt8) × Int) :=
 cond (Q7 .gtr (s_0.length : Int) 65535)
 (some ([], 2))
 ((W2 N s_0).bind fun v2 =>
 some (v2, 0))
theorem Ut {N} {s_0} {r} (h : W1 N s_0 = some r) : pU 95 [.str s_0] (.tuple [.str r.1, .int .i64 r.2]) := by
 refine Q0 k95 ?_;unfold W1 at h;rw [cX] at h;refine iL2 h fun h => ?_;refine cP h Q07 p1 fun v2 h => ?_;obtain rfl := Qo h; exact u2
def Wv (N : Nat) (shape : Int) (p : Q1) : Option (List UInt8) :=
 cond (Q7 .eql shape 1)
 ((Zk N (wrap .u64 p.N') shape).bind fun v2 =>
 some v2)
 (cond (Q7 .eql shape 2)
 ((Zk N (wrap .u64 p.N') shape).bind fun v5 =>
 some v5)
 (cond (Q7 .eql shape 3)
 ((Zk N (wrap .u64 p.N') 4).bind fun v8 =>
 some v8)
 (cond (Q7 .eql shape 4)
 ((Wh N (wrap .i64 p.N')).bind fun v11 =>
 some v11.1)
 ((W1 N p.Text).bind fun v13 =>
 cond (Q7 .neq shape 7)
 (some v13.1)
 ((W1 N p.Value).bind fun v16 =>
 cond (Nat.ble (v13.1.length + v16.1.length) 4611686018427387904) (some (v13.1 ++ v16.1)) none)))))
theorem Jh {N} {shape} {p} {r} (h : Wv N shape p = some r) : pU 105 [.int .i64 shape, .agg (Q1.cells p)] (.str r) := by
 refine Q0 Qw1 ?_;unfold Wv at h;rw [cX] at h;refine ifO h (fun hc1 h => ?_) (fun hc1 h => ?_)
 ·refine ifT hc1 ?_;refine cP h Z6 p2 fun v2 h => ?_;cases h; exact (.p _)
 apply iU h <;> intro h
 ·refine cP h Z6 p2 fun v5 h => ?_;cases h; exact (.p _)
 apply iU h <;> intro h
 ·refine cP h Z6 p2 fun v8 h => ?_;cases h; exact (.p _)
 apply iU h <;> intro h
 ·refine cP h Jq p1 fun v11 h => ?_;cases h; exact (.p _)
 refine cP h Ut p1 fun v13 h => ?_;refine iL h fun h => ?_;refine cP h Ut p1 fun v16 h => ?_;refine kU h fun h => ?_;cases h; exact (.p _)
def Qq (N : Nat) (kind : Int) (l : List Q1) : Nat → Int → (List Int) → (List Int) → Option ((List UInt8) × Int)
 | 0, _, _, _ => none
 | n + 1, s107, l108, l109 =>
  cond (Q7 .lss s107 ((Q6 Q1.cells l).length : Int))
  ((idx l s107).bind fun y111 =>
  optC (Q4t F_prop_rules_tab y111.ID) (fun m113 =>
  (Vx N m113 kind y111).bind fun v115 =>
  cond (Q7 .neq v115 0)
  (some ([], v115))
  (cond (decide (0 ≤ y111.ID) && decide (y111.ID < ((64 : Nat) : Int))) ((idx (l108 : List Int) y111.ID).bind fun y118 =>
  (idx (l108 : List Int) y111.ID).bind fun y121 =>
  (idx (((l108 : List Int).set (Int.toNat y111.ID) (wrap .i64 (y118 + 1))) : List Int) y111.ID).bind fun y123 =>
  cond (Q7 .gtr y123 1)
  ((J1 N kind y111.ID).bind fun v126 =>
  cond (!v126)
  (some ([], 9))
  (cond (Nat.ble ((l109.length + 1 + 4096) * 1) 17592186044416) ((Wv N m113.shape y111).bind fun v130 =>
  cond (Nat.beq v130.length 0)
  (Qq N kind l n (wrap .i64 (s107 + 1)) ((l108 : List Int).set (Int.toNat y111.ID) (wrap .i64 (y118 + 1))) (l109 ++ [(wrap .u8 y111.ID)]))
  (cond (Nat.ble (((l109.length + 1) + v130.length + 4096) * 1) 17592186044416) (Qq N kind l n (wrap .i64 (s107 + 1)) ((l108 : List Int).set (Int.toNat y111.ID) (wrap .i64 (y118 + 1))) ((l109 ++ [(wrap .u8 y111.ID)]) ++ (v130.map fun b => (b.toNat : Int)))) none)) none))
  (cond (Nat.ble ((l109.length + 1 + 4096) * 1) 17592186044416) ((Wv N m113.shape y111).bind fun v135 =>
  cond (Nat.beq v135.length 0)
  (Qq N kind l n (wrap .i64 (s107 + 1)) ((l108 : List Int).set (Int.toNat y111.ID) (wrap .i64 (y118 + 1))) (l109 ++ [(wrap .u8 y111.ID)]))
  (cond (Nat.ble (((l109.length + 1) + v135.length + 4096) * 1) 17592186044416) (Qq N kind l n (wrap .i64 (s107 + 1)) ((l108 : List Int).set (Int.toNat y111.ID) (wrap .i64 (y118 + 1))) ((l109 ++ [(wrap .u8 y111.ID)]) ++ (v135.map fun b => (b.toNat : Int)))) none)) none)) none))
  ((Vx N (⟨0, 0, 0, 0⟩ : Qc) kind y111).bind fun v139 =>
  cond (Q7 .neq v139 0)
  (some ([], v139))
  (cond (decide (0 ≤ y111.ID) && decide (y111.ID < ((64 : Nat) : Int))) ((idx (l108 : List Int) y111.ID).bind fun y142 =>
  (idx (l108 : List Int) y111.ID).bind fun y145 =>
  (idx (((l108 : List Int).set (Int.toNat y111.ID) (wrap .i64 (y142 + 1))) : List Int) y111.ID).bind fun y147 =>
  cond (Q7 .gtr y147 1)
  ((J1 N kind y111.ID).bind fun v150 =>
  cond (!v150)
  (some ([], 9))
  (cond (Nat.ble ((l109.length + 1 + 4096) * 1) 17592186044416) ((Wv N 0 y111).bind fun v154 =>
  cond (Nat.beq v154.length 0)
  (Qq N kind l n (wrap .i64 (s107 + 1)) ((l108 : List Int).set (Int.toNat y111.ID) (wrap .i64 (y142 + 1))) (l109 ++ [(wrap .u8 y111.ID)]))
  (cond (Nat.ble (((l109.length + 1) + v154.length + 4096) * 1) 17592186044416) (Qq N kind l n (wrap .i64 (s107 + 1)) ((l108 : List Int).set (Int.toNat y111.ID) (wrap .i64 (y142 + 1))) ((l109 ++ [(wrap .u8 y111.ID)]) ++ (v154.map fun b => (b.toNat : Int)))) none)) none))
  (cond (Nat.ble ((l109.length + 1 + 4096) * 1) 17592186044416) ((Wv N 0 y111).bind fun v159 =>
  cond (Nat.beq v159.length 0)
  (Qq N kind l n (wrap .i64 (s107 + 1)) ((l108 : List Int).set (Int.toNat y111.ID) (wrap .i64 (y142 + 1))) (l109 ++ [(wrap .u8 y111.ID)]))
  (cond (Nat.ble (((l109.length + 1) + v159.length + 4096) * 1) 17592186044416) (Qq N kind l n (wrap .i64 (s107 + 1)) ((l108 : List Int).set (Int.toNat y111.ID) (wrap .i64 (y142 + 1))) ((l109 ++ [(wrap .u8 y111.ID)]) ++ (v159.map fun b => (b.toNat : Int)))) none)) none)) none)))
  ((idx (l108 : List Int) 22).bind fun y163 =>
  cond (Q7 .gtr y163 0)
  ((idx (l108 : List Int) 21).bind fun y166 =>
  cond (Q7 .eql y166 0)
  (some ([], 9))
  ((Wh N (l109.length : Int)).bind fun v169 =>
  cond (Q7 .neq v169.2 0)
  (some ([], 4))
  (cond (Nat.ble (v169.1.length + (l109.map fun n => UInt8.ofNat n.toNat).length) 4611686018427387904) (some ((v169.1 ++ (l109.map fun n => UInt8.ofNat n.toNat)), 0)) none)))
  ((Wh N (l109.length : Int)).bind fun v173 =>
  cond (Q7 .neq v173.2 0)
  (some ([], 4))
  (cond (Nat.ble (v173.1.length + (l109.map fun n => UInt8.ofNat n.toNat).length) 4611686018427387904) (some ((v173.1 ++ (l109.map fun n => UInt8.ofNat n.toNat)), 0)) none)))
def Ym (N : Nat) (kind : Int) (l : List Q1) : Option ((List UInt8) × Int) :=
 cond (Q7 .gtr ((Q6 Q1.cells l).length : Int) 1000)
 (some ([], 4))
 (Qq N kind l N 0 [0, 0, 0, 0, 0, 0, 0, 0, 0, 0, 0, 0, 0, 0, 0, 0, 0, 0, 0, 0, 0, 0, 0, 0, 0, 0, 0, 0, 0, 0, 0, 0, 0, 0, 0, 0, 0, 0, 0, 0, 0, 0, 0, 0, 0, 0, 0, 0, 0, 0, 0, 0, 0, 0, 0, 0, 0, 0, 0, 0, 0, 0, 0, 0] [])
theorem X6 {N} {kind} {l} {r} (h : Ym N kind l = some r) : pU 66 [.int .i64 kind, .slice 4 (Q6 Q1.cells l)] (.tuple [.str r.1, .int .i64 r.2]) := by
 refine Q0 k66 ?_;unfold Ym at h;rw [cX] at h;refine iL2 h fun h => ?_;refine Q06 Q8v .nil ?_;refine lpA (τ := Int × (List Int) × (List Int)) (fun ⟨s107, _, l109⟩ => (iI kind :: a4 (.any :: .p (.pmap (Qpv (fun v => .agg (Qc.cells v)) F_prop_rules_tab)) :: .ptr 0 0 :: .slice 1 1 0 l109.length :: a8 (a2 (.p (.slice 4 (Q6 Q1.cells l)) :: iI ((Q6 Q1.cells l).length : Int) :: iI s107 :: a16 (a16 (a8 (a2 (.any :: []))))))) : List AV)) (fun ⟨_, l108, l109⟩ => (.cells (Y4 (cI .i64) l108) :: .cells (Y4 (cI .u8) l109) :: [] : List AObj)) (fun n0 ⟨s107, l108, l109⟩ => Qq N kind l n0 s107 l108 l109) (0, [0, 0, 0, 0, 0, 0, 0, 0, 0, 0, 0, 0, 0, 0, 0, 0, 0, 0, 0, 0, 0, 0, 0, 0, 0, 0, 0, 0, 0, 0, 0, 0, 0, 0, 0, 0, 0, 0, 0, 0, 0, 0, 0, 0, 0, 0, 0, 0, 0, 0, 0, 0, 0, 0, 0, 0, 0, 0, 0, 0, 0, 0, 0, 0], []) h fun n0 ⟨s107, l108, l109⟩ h => ?_
 first | rw [Qq] at h | simp only [Qq] at h
 rw [cX] at h;apply iU h <;> intro h
 ·refine xR h fun y111 h => ?_;refine Qok h (fun m113 hm114 h => ?_) (fun hm114 h => ?_)
  ·refine cP h Q2x (.cons q4 (.cons (.p _) (.cons q4 .nil))) fun v115 h => ?_;refine iL2 h fun h => ?_;refine Xr Qq0 ?_;refine Z1 ?_;obtain ⟨hk120, h⟩ := Q12 h;refine Wt hk120 ?_;obtain ⟨y118, hy119, h⟩ := Wq h
   refine Q0b (c := (cI .i64)) (e := 1) (fun _ => rfl) hy119 (off := 0) (by decide) (by first | omega | (simp only [Gm, orI, Q7g, Xf, Q1l, Q3u]; omega)) ?_
   refine Wt hk120 ?_;obtain ⟨y121, hy122, h⟩ := Wq h;refine Wt (Wo (c := (cI .i64)) (e := 1) (fun _ => rfl) hy122 (off := 0) (by omega) rfl (by decide)) ?_
   refine Wr (c := (cI .i64)) (e := 1) (fun _ => rfl) hy122 (wrap .i64 (y118 + 1)) (off := 0) (by first | omega | (simp only [Gm, orI, Q7g, Xf, Q1l, Q3u]; omega)) rfl (by simp) ?_
   refine Wt hk120 ?_;obtain ⟨y123, hy124, h⟩ := Wq h
   refine Q0b (c := (cI .i64)) (e := 1) (fun _ => rfl) hy124 (off := 0) (by decide) (by first | omega | (simp only [Gm, orI, Q7g, Xf, Q1l, Q3u]; omega)) ?_
   apply iU h <;> intro h
   ·refine cP h Q2v p2 fun v126 h => ?_;refine iL2 h fun h => ?_;refine Z1 ?_;obtain ⟨hk129, h⟩ := Q12 h;refine Wt (Zn (c := (cI .u8)) (e := 1) (fun _ => rfl) sd hk129) ?_;refine Gb (c := (cI .u8)) [(wrap .u8 y111.ID)] rfl ?_;refine cD h Jh (.cons (.p _) (.cons q4 .nil)) fun v130 h => ?_;refine Q7x (b := v130) ?_;apply iU h <;> intro h
    ·show Exists _;exact ⟨(n0, (wrap .i64 (s107 + 1)), ((l108 : List Int).set (Int.toNat y111.ID) (wrap .i64 (y118 + 1))), (l109 ++ [(wrap .u8 y111.ID)])), h, Lg _, (rho [0, 5]), Vf⟩
    obtain ⟨hk133, h⟩ := Q12 h;refine Wt (Zn (c := (cI .u8)) (e := 1) (l := (l109 ++ [(wrap .u8 y111.ID)])) (fun _ => rfl) sd hk133) ?_;refine Gb (c := (cI .u8)) (l := (l109 ++ [(wrap .u8 y111.ID)])) (v130.map fun b => (b.toNat : Int)) rfl ?_;show Exists _;exact ⟨(n0, (wrap .i64 (s107 + 1)), ((l108 : List Int).set (Int.toNat y111.ID) (wrap .i64 (y118 + 1))), ((l109 ++ [(wrap .u8 y111.ID)]) ++ (v130.map fun b => (b.toNat : Int)))), h, Lg _, (rho [0, 6]), Vf⟩
   refine Z1 ?_;obtain ⟨hk134, h⟩ := Q12 h;refine Wt (Zn (c := (cI .u8)) (e := 1) (fun _ => rfl) sd hk134) ?_;refine Gb (c := (cI .u8)) [(wrap .u8 y111.ID)] rfl ?_;refine cD h Jh (.cons (.p _) (.cons q4 .nil)) fun v135 h => ?_;refine Q7x (b := v135) ?_;apply iU h <;> intro h
   ·show Exists _;exact ⟨(n0, (wrap .i64 (s107 + 1)), ((l108 : List Int).set (Int.toNat y111.ID) (wrap .i64 (y118 + 1))), (l109 ++ [(wrap .u8 y111.ID)])), h, Lg _, (rho [0, 5]), Vf⟩
   obtain ⟨hk138, h⟩ := Q12 h;refine Wt (Zn (c := (cI .u8)) (e := 1) (l := (l109 ++ [(wrap .u8 y111.ID)])) (fun _ => rfl) sd hk138) ?_;refine Gb (c := (cI .u8)) (l := (l109 ++ [(wrap .u8 y111.ID)])) (v135.map fun b => (b.toNat : Int)) rfl ?_;show Exists _;exact ⟨(n0, (wrap .i64 (s107 + 1)), ((l108 : List Int).set (Int.toNat y111.ID) (wrap .i64 (y118 + 1))), ((l109 ++ [(wrap .u8 y111.ID)]) ++ (v135.map fun b => (b.toNat : Int)))), h, Lg _, (rho [0, 6]), Vf⟩
  refine cP h Q2x (.cons q4 (.cons (.p _) (.cons q4 .nil))) fun v139 h => ?_;refine iL2 h fun h => ?_;refine Xr Qq0 ?_;refine Z1 ?_;obtain ⟨hk144, h⟩ := Q12 h;refine Wt hk144 ?_;obtain ⟨y142, hy143, h⟩ := Wq h
  refine Q0b (c := (cI .i64)) (e := 1) (fun _ => rfl) hy143 (off := 0) (by decide) (by first | omega | (simp only [Gm, orI, Q7g, Xf, Q1l, Q3u]; omega)) ?_
  refine Wt hk144 ?_;obtain ⟨y145, hy146, h⟩ := Wq h;refine Wt (Wo (c := (cI .i64)) (e := 1) (fun _ => rfl) hy146 (off := 0) (by omega) rfl (by decide)) ?_
  refine Wr (c := (cI .i64)) (e := 1) (fun _ => rfl) hy146 (wrap .i64 (y142 + 1)) (off := 0) (by first | omega | (simp only [Gm, orI, Q7g, Xf, Q1l, Q3u]; omega)) rfl (by simp) ?_
  refine Wt hk144 ?_;obtain ⟨y147, hy148, h⟩ := Wq h
  refine Q0b (c := (cI .i64)) (e := 1) (fun _ => rfl) hy148 (off := 0) (by decide) (by first | omega | (simp only [Gm, orI, Q7g, Xf, Q1l, Q3u]; omega)) ?_
  apply iU h <;> intro h
  ·refine cP h Q2v p2 fun v150 h => ?_;refine iL2 h fun h => ?_;refine Z1 ?_;obtain ⟨hk153, h⟩ := Q12 h;refine Wt (Zn (c := (cI .u8)) (e := 1) (fun _ => rfl) sd hk153) ?_;refine Gb (c := (cI .u8)) [(wrap .u8 y111.ID)] rfl ?_;refine cD h Jh (.cons (.p _) (.cons q4 .nil)) fun v154 h => ?_;refine Q7x (b := v154) ?_;apply iU h <;> intro h
   ·show Exists _;exact ⟨(n0, (wrap .i64 (s107 + 1)), ((l108 : List Int).set (Int.toNat y111.ID) (wrap .i64 (y142 + 1))), (l109 ++ [(wrap .u8 y111.ID)])), h, Lg _, (rho [0, 5]), Vf⟩
   obtain ⟨hk157, h⟩ := Q12 h;refine Wt (Zn (c := (cI .u8)) (e := 1) (l := (l109 ++ [(wrap .u8 y111.ID)])) (fun _ => rfl) sd hk157) ?_;refine Gb (c := (cI .u8)) (l := (l109 ++ [(wrap .u8 y111.ID)])) (v154.map fun b => (b.toNat : Int)) rfl ?_;show Exists _;exact ⟨(n0, (wrap .i64 (s107 + 1)), ((l108 : List Int).set (Int.toNat y111.ID) (wrap .i64 (y142 + 1))), ((l109 ++ [(wrap .u8 y111.ID)]) ++ (v154.map fun b => (b.toNat : Int)))), h, Lg _, (rho [0, 6]), Vf⟩
  refine Z1 ?_;obtain ⟨hk158, h⟩ := Q12 h;refine Wt (Zn (c := (cI .u8)) (e := 1) (fun _ => rfl) sd hk158) ?_;refine Gb (c := (cI .u8)) [(wrap .u8 y111.ID)] rfl ?_;refine cD h Jh (.cons (.p _) (.cons q4 .nil)) fun v159 h => ?_;refine Q7x (b := v159) ?_;apply iU h <;> intro h
  ·show Exists _;exact ⟨(n0, (wrap .i64 (s107 + 1)), ((l108 : List Int).set (Int.toNat y111.ID) (wrap .i64 (y142 + 1))), (l109 ++ [(wrap .u8 y111.ID)])), h, Lg _, (rho [0, 5]), Vf⟩
  obtain ⟨hk162, h⟩ := Q12 h;refine Wt (Zn (c := (cI .u8)) (e := 1) (l := (l109 ++ [(wrap .u8 y111.ID)])) (fun _ => rfl) sd hk162) ?_;refine Gb (c := (cI .u8)) (l := (l109 ++ [(wrap .u8 y111.ID)])) (v159.map fun b => (b.toNat : Int)) rfl ?_;show Exists _;exact ⟨(n0, (wrap .i64 (s107 + 1)), ((l108 : List Int).set (Int.toNat y111.ID) (wrap .i64 (y142 + 1))), ((l109 ++ [(wrap .u8 y111.ID)]) ++ (v159.map fun b => (b.toNat : Int)))), h, Lg _, (rho [0, 6]), Vf⟩
 refine Xr Qrw ?_;obtain ⟨y163, hy164, h⟩ := Wq h;refine Q0b (c := (cI .i64)) (e := 1) (n := 1) (j := 22) (fun _ => rfl) hy164 (off := 0) (by decide) rfl ?_;apply iU h <;> intro h
 ·obtain ⟨y166, hy167, h⟩ := Wq h;refine Q0b (c := (cI .i64)) (e := 1) (n := 1) (j := 21) (fun _ => rfl) hy167 (off := 0) (by decide) rfl ?_;refine iL2 h fun h => ?_;refine cP h Jq p1 fun v169 h => ?_;refine iL2 h fun h => ?_;refine Qd8 (l := l109) (n := l109.length) sd ?_;refine kU h fun h => ?_;obtain rfl := Qo h; exact u2
 refine cP h Jq p1 fun v173 h => ?_;refine iL2 h fun h => ?_;refine Qd8 (l := l109) (n := l109.length) sd ?_;refine kU h fun h => ?_;obtain rfl := Qo h; exact u2
def Zw (N : Nat) (kind : Int) (l : List Q1) : Option Int :=
 (Ym N kind l).bind fun v1 =>
 some v1.2
theorem Zt {N} {kind} {l} {r} (h : Zw N kind l = some r) : pU 93 [.int .i64 kind, .slice 4 (Q6 Q1.cells l)] (.int .i64 r) := by
 refine Q0 k93 ?_;unfold Zw at h;refine cP h X6 p2 fun v1 h => ?_;cases h; exact (.p _)
def Q08 (_N : Nat) (version : Int) (kind : Int) : Option Bool :=
 cond (Q7 .eql version 4)
 (cond (Q7 .geq kind 4)
 (some (Q7 .leq kind 7))
 (some false))
 (cond (Q7 .eql version 5)
 (cond (Q7 .geq kind 4)
 (some (Q7 .leq kind 7))
 (some false))
 (some false))
theorem Q9h {N} {version} {kind} {r} (h : Q08 N version kind = some r) : pU 67 [.int .i64 version, .int .i64 kind] (.bool r) := by
 refine Q0 k67 ?_;unfold Q08 at h;rw [cX] at h;apply iU h <;> intro h
 ·exact iB h
 refine iR h fun h => ?_;exact iB h
def Q0r (_N : Nat) (p : Q3) : Option (Q19) :=
 some (⟨p.Kind, p.QoS, p.ID, p.KeepAlive, p.Code, p.Dup, p.Retain, p.Clean, p.HasUser, p.HasPass, p.HasWill, p.Session, p.Topic, p.Payload, p.Client, p.User, p.Pass⟩ : Q19)
theorem Q2s {N} {p} {r} (h : Q0r N p = some r) : pU 144 [.agg (Q3.cells p)] (.agg (Q19.cells r)) := by
 refine Q0 Qvm ?_;unfold Q0r at h;obtain rfl := Qo h; exact (Frz.agg' (f8_ (f2_ (f1_ (.cons (.p _) p5)))))
def Vr (_N : Nat) (a : Q1) (b : Q1) : Option Bool :=
 some (((a.ID : Int) == b.ID) && (((a.N' : Int) == b.N') && (((a.Text : List UInt8) == b.Text) && (((a.Value : List UInt8) == b.Value) && true))))
theorem Q1b {N} {a} {b} {r} (h : Vr N a b = some r) : pU 176 [.agg (Q1.cells a), .agg (Q1.cells b)] (.bool r) := by
 refine Q0 Qu6 ?_;unfold Vr at h;cases h; exact (.p _)
def Zz (N : Nat) (a : List Q1) (b : List Q1) : Nat → Int → Option Bool
 | 0, _ => none
 | n + 1, s19 =>
  cond (Q7 .lss s19 ((Q6 Q1.cells a).length : Int))
  ((idx a s19).bind fun y21 =>
  (idx b s19).bind fun y23 =>
  (Vr N y21 y23).bind fun v25 =>
  cond (!v25)
  (some false)
  (Zz N a b n (wrap .i64 (s19 + 1))))
  (some true)
def Yi (N : Nat) (a : List Q1) (b : List Q1) : Option Bool :=
 cond (Q7 .neq ((Q6 Q1.cells a).length : Int) ((Q6 Q1.cells b).length : Int))
 (some false)
 (Zz N a b N 0)
theorem Jk {N} {a} {b} {r} (h : Yi N a b = some r) : pU 148 [.slice 4 (Q6 Q1.cells a), .slice 4 (Q6 Q1.cells b)] (.bool r) := by
 refine Q0 Qw5 ?_;unfold Yi at h;rw [cX] at h;refine Xr Qtf ?_;refine iL h fun h => ?_;refine lpH (τ := Int) (fun s19 => (.any :: .p (.slice 4 (Q6 Q1.cells b)) :: .p (.func (.func 176) [] []) :: a8 (a4 (.p (.slice 4 (Q6 Q1.cells a)) :: iI ((Q6 Q1.cells a).length : Int) :: iI s19 :: a8 (a4 (a2 ([]))))) : List AV)) (fun n0 s19 => Zz N a b n0 s19) (0) h fun n0 s19 h => ?_
 first | rw [Zz] at h | simp only [Zz] at h
 rw [cX] at h;refine iR h fun h => ?_;refine xR h fun y21 h => ?_;refine xR h fun y23 h => ?_;refine cP h Q1b (.cons q4 (.cons q4 .nil)) fun v25 h => ?_;refine iL h fun h => ?_;show Exists _;exact ⟨(n0, (wrap .i64 (s19 + 1))), h, Lg _, (fun i => i), Vf⟩
def Vp (N : Nat) (a : Xe) (b : Xe) : Option Bool :=
 cond (Gp .eql a.Topic b.Topic)
 (cond (Gp .eql a.Payload b.Payload)
 (cond (Q7 .eql a.QoS b.QoS)
 (cond (a.Retain == b.Retain)
 ((Yi N a.Props b.Props).bind fun v5 =>
 some v5)
 (some false))
 (some false))
 (some false))
 (some false)
theorem Q4e {N} {a} {b} {r} (h : Vp N a b = some r) : pU 145 [.agg (Xe.cells a), .agg (Xe.cells b)] (.bool r) := by
 refine Q0 Qux ?_;unfold Vp at h;rw [cX, cY] at h;refine iR h fun h => ?_;refine iR h fun h => ?_;refine iR h fun h => ?_;refine iR h fun h => ?_;refine cP h Jk p2 fun v5 h => ?_;cases h; exact (.p _)
def Gi (_N : Nat) (a : Int) (b : Int) : Option Bool :=
 some (Q7 .eql a b)
theorem Q47 {N} {a} {b} {r} (h : Gi N a b = some r) : pU 172 [.int .i64 a, .int .i64 b] (.bool r) := by
 refine Q0 Qsn ?_;unfold Gi at h;rw [cX] at h;cases h; exact (.p _)
def Xc (N : Nat) (a : List Int) (b : List Int) : Nat → Int → Option Bool
 | 0, _ => none
 | n + 1, s19 =>
  cond (Q7 .lss s19 ((Q6 (cI .i64) a).length : Int))
  ((idx a s19).bind fun y21 =>
  (idx b s19).bind fun y23 =>
  (Gi N y21 y23).bind fun v25 =>
  cond (!v25)
  (some false)
  (Xc N a b n (wrap .i64 (s19 + 1))))
  (some true)
def U0 (N : Nat) (a : List Int) (b : List Int) : Option Bool :=
 cond (Q7 .neq ((Q6 (cI .i64) a).length : Int) ((Q6 (cI .i64) b).length : Int))
 (some false)
 (Xc N a b N 0)
theorem Q50 {N} {a} {b} {r} (h : U0 N a b = some r) : pU 146 [.slice 1 (Q6 (cI .i64) a), .slice 1 (Q6 (cI .i64) b)] (.bool r) := by
 refine Q0 Quh ?_;unfold U0 at h;rw [cX] at h;refine Xr Qvb ?_;refine iL h fun h => ?_;refine lpH (τ := Int) (fun s19 => (.any :: .p (.slice 1 (Q6 (cI .i64) b)) :: .p (.func (.func 172) [] []) :: a8 (a4 (.p (.slice 1 (Q6 (cI .i64) a)) :: .p (.int .i64 ((Q6 (cI .i64) a).length : Int)) :: iI s19 :: a8 (a4 (a2 ([]))))) : List AV)) (fun n0 s19 => Xc N a b n0 s19) (0) h fun n0 s19 h => ?_
 first | rw [Xc] at h | simp only [Xc] at h
 rw [cX] at h;refine iR h fun h => ?_;refine xR h fun y21 h => ?_;refine xR h fun y23 h => ?_;refine cP h Q47 p2 fun v25 h => ?_;refine iL h fun h => ?_;show Exists _;exact ⟨(n0, (wrap .i64 (s19 + 1))), h, Lg _, (fun i => i), Vf⟩
def Wz (_N : Nat) (a : Q2) (b : Q2) : Option Bool :=
 some (((a.Topic : List UInt8) == b.Topic) && (((a.QoS : Int) == b.QoS) && (((a.NoLocal : Bool) == b.NoLocal) && (((a.AsPublished : Bool) == b.AsPublished) && (((a.Handling : Int) == b.Handling) && true)))))
theorem Q0m {N} {a} {b} {r} (h : Wz N a b = some r) : pU 174 [.agg (Q2.cells a), .agg (Q2.cells b)] (.bool r) := by
 refine Q0 Qrq ?_;unfold Wz at h;cases h; exact (.p _)
def Zg (N : Nat) (a : List Q2) (b : List Q2) : Nat → Int → Option Bool
 | 0, _ => none
 | n + 1, s19 =>
  cond (Q7 .lss s19 ((Q6 Q2.cells a).length : Int))
  ((idx a s19).bind fun y21 =>
  (idx b s19).bind fun y23 =>
  (Wz N y21 y23).bind fun v25 =>
  cond (!v25)
  (some false)
  (Zg N a b n (wrap .i64 (s19 + 1))))
  (some true)
def Yq (N : Nat) (a : List Q2) (b : List Q2) : Option Bool :=
 cond (Q7 .neq ((Q6 Q2.cells a).length : Int) ((Q6 Q2.cells b).length : Int))
 (some false)
 (Zg N a b N 0)
theorem Q0x {N} {a} {b} {r} (h : Yq N a b = some r) : pU 147 [.slice 5 (Q6 Q2.cells a), .slice 5 (Q6 Q2.cells b)] (.bool r) := by
 refine Q0 Qrx ?_;unfold Yq at h;rw [cX] at h;refine Xr Qvn ?_;refine iL h fun h => ?_;refine lpH (τ := Int) (fun s19 => (.any :: .p (.slice 5 (Q6 Q2.cells b)) :: .p (.func (.func 174) [] []) :: a8 (a4 (.p (.slice 5 (Q6 Q2.cells a)) :: iI ((Q6 Q2.cells a).length : Int) :: iI s19 :: a8 (a4 (a2 ([]))))) : List AV)) (fun n0 s19 => Zg N a b n0 s19) (0) h fun n0 s19 h => ?_
 first | rw [Zg] at h | simp only [Zg] at h
 rw [cX] at h;refine iR h fun h => ?_;refine xR h fun y21 h => ?_;refine xR h fun y23 h => ?_;refine cP h Q0m (.cons (Frz.agg' p5) (.cons (Frz.agg' p5) .nil)) fun v25 h => ?_;refine iL h fun h => ?_;show Exists _;exact ⟨(n0, (wrap .i64 (s19 + 1))), h, Lg _, (fun i => i), Vf⟩
def Qw (N : Nat) (a : Q3) (b : Q3) : Option Bool :=
 (Q0r N a).bind fun v1 =>
 (Q0r N b).bind fun v3 =>
 cond (((v1.kind : Int) == v3.kind) && (((v1.qos : Int) == v3.qos) && (((v1.id : Int) == v3.id) && (((v1.alive : Int) == v3.alive) && (((v1.code : Int) == v3.code) && (((v1.dup : Bool) == v3.dup) && (((v1.retain : Bool) == v3.retain) && (((v1.clean : Bool) == v3.clean) && (((v1.user : Bool) == v3.user) && (((v1.pass : Bool) == v3.pass) && (((v1.will : Bool) == v3.will) && (((v1.again : Bool) == v3.again) && (((v1.topic : List UInt8) == v3.topic) && (((v1.payload : List UInt8) == v3.payload) && (((v1.client : List UInt8) == v3.client) && (((v1.name : List UInt8) == v3.name) && (((v1.word : List UInt8) == v3.word) && true)))))))))))))))))
 ((Vp N a.Will b.Will).bind fun v6 =>
 cond v6
 ((U0 N a.Codes b.Codes).bind fun v9 =>
 cond v9
 ((Yq N a.Filters b.Filters).bind fun v12 =>
 cond v12
 ((Yi N a.Props b.Props).bind fun v15 =>
 some v15)
 (some false))
 (some false))
 (some false))
 (some false)
theorem Qk {N} {a} {b} {r} (h : Qw N a b = some r) : pU 101 [.agg (Q3.cells a), .agg (Q3.cells b)] (.bool r) := by
 refine Q0 Qun ?_;unfold Qw at h;refine Z1 ?_;obtain ⟨v1, hv2, h⟩ := Wq h;refine Uz (Q2s hv2) (.cons (Frz.agg' (Y5 (f8_ (.cons (.p _) .nil)))) .nil) ?_;obtain ⟨v3, hv4, h⟩ := Wq h;refine Uz (Q2s hv4) (.cons (Frz.agg' (Y5 (f8_ (.cons (.p _) .nil)))) .nil) ?_;refine Qmv (ks := [0, 0, 0, 0, 0, 2, 2, 2, 2, 2, 2, 2, 1, 1, 1, 1, 1]) (xs := [.p (.int .i64 v1.kind), .p (.int .i64 v1.qos), .p (.int .i64 v1.id), .p (.int .i64 v1.alive), .p (.int .i64 v1.code), .p (.bool v1.dup), .p (.bool v1.retain), .p (.bool v1.clean), .p (.bool v1.user), .p (.bool v1.pass), .p (.bool v1.will), .p (.bool v1.again), .p (.str v1.topic), .p (.str v1.payload), .p (.str v1.client), .p (.str v1.name), .p (.str v1.word)]) (ys := [.p (.int .i64 v3.kind), .p (.int .i64 v3.qos), .p (.int .i64 v3.id), .p (.int .i64 v3.alive), .p (.int .i64 v3.code), .p (.bool v3.dup), .p (.bool v3.retain), .p (.bool v3.clean), .p (.bool v3.user), .p (.bool v3.pass), .p (.bool v3.will), .p (.bool v3.again), .p (.str v3.topic), .p (.str v3.payload), .p (.str v3.client), .p (.str v3.name), .p (.str v3.word)]) (b := (((v1.kind : Int) == v3.kind) && (((v1.qos : Int) == v3.qos) && (((v1.id : Int) == v3.id) && (((v1.alive : Int) == v3.alive) && (((v1.code : Int) == v3.code) && (((v1.dup : Bool) == v3.dup) && (((v1.retain : Bool) == v3.retain) && (((v1.clean : Bool) == v3.clean) && (((v1.user : Bool) == v3.user) && (((v1.pass : Bool) == v3.pass) && (((v1.will : Bool) == v3.will) && (((v1.again : Bool) == v3.again) && (((v1.topic : List UInt8) == v3.topic) && (((v1.payload : List UInt8) == v3.payload) && (((v1.client : List UInt8) == v3.client) && (((v1.name : List UInt8) == v3.name) && (((v1.word : List UInt8) == v3.word) && true)))))))))))))))))) rfl ?_;refine ifO h (fun hc5 h => ?_) (fun hc5 h => ?_)
 ·obtain ⟨v6, hv7, h⟩ := Wq h;refine Uz (Q4e hv7) (.cons (Frz.agg' (f4_ (.cons (.p _) .nil))) (.cons (Frz.agg' (f4_ (.cons (.p _) .nil))) .nil)) ?_;refine ifO h (fun hc8 h => ?_) (fun hc8 h => ?_)
  ·obtain ⟨v9, hv10, h⟩ := Wq h;refine Uz (Q50 hv10) (.cons (.p _) (.cons (.p _) .nil)) ?_;refine ifO h (fun hc11 h => ?_) (fun hc11 h => ?_)
   ·obtain ⟨v12, hv13, h⟩ := Wq h;refine Uz (Q0x hv13) (.cons (.p _) (.cons (.p _) .nil)) ?_;refine ifO h (fun hc14 h => ?_) (fun hc14 h => ?_)
    ·obtain ⟨v15, hv16, h⟩ := Wq h;refine Uz (Jk hv16) (.cons (.p _) (.cons (.p _) .nil)) ?_;have hr := Qo h;subst hr;exact (.p _)
    have hr := Qo h;subst hr;exact (.p _)
   have hr := Qo h;subst hr;exact (.p _)
  have hr := Qo h;subst hr;exact (.p _)
 have hr := Qo h;subst hr;exact (.p _)
def Q0g (N : Nat) (version : Int) (p : Q3) : Option Int :=
 (Q08 N version p.Kind).bind fun v1 =>
 cond (!v1)
 (some 2)
 (cond (Q7 .leq p.ID 0)
 (some 2)
 (cond (Q7 .geq p.ID 65536)
 (some 2)
 ((Wu N p.Kind p.Code).bind fun v6 =>
 cond (!v6)
 (some 2)
 (cond (Q7 .eql version 4)
 (cond (Q7 .neq p.Code 0)
 (some 2)
 (cond (Q7 .neq ((Q6 Q1.cells p.Props).length : Int) 0)
 (some 2)
 ((Qw N p (⟨p.Kind, false, false, 0, p.ID, [], [], false, 0, [], false, [], false, [], false, (⟨[], [], 0, false, []⟩ : Xe), false, p.Code, [], [], p.Props⟩ : Q3)).bind fun v12 =>
 cond (!v12)
 (some 2)
 ((Zw N p.Kind p.Props).bind fun v15 =>
 some v15))))
 ((Qw N p (⟨p.Kind, false, false, 0, p.ID, [], [], false, 0, [], false, [], false, [], false, (⟨[], [], 0, false, []⟩ : Xe), false, p.Code, [], [], p.Props⟩ : Q3)).bind fun v17 =>
 cond (!v17)
 (some 2)
 ((Zw N p.Kind p.Props).bind fun v20 =>
 some v20))))))
theorem Q9a {N} {version} {p} {r} (h : Q0g N version p = some r) : pU 65 [.int .i64 version, .agg (Q3.cells p)] (.int .i64 r) := by
 refine Q0 k65 ?_;unfold Q0g at h;rw [cX] at h;refine cP h Q9h p2 fun v1 h => ?_;refine iL h fun h => ?_;refine iL h fun h => ?_;refine iL h fun h => ?_;refine cP h U1 p2 fun v6 h => ?_;refine iL h fun h => ?_;apply iU h <;> intro h
 ·refine iL h fun h => ?_;refine iL h fun h => ?_;refine cP h Qk (.cons (Frz.agg' (Y5 (f2_ (f1_ (.cons (.p _) p5))))) (.cons (Frz.agg' (Y5 (f2_ (f1_ (.cons (.nil _) (f2_ (.cons (.nil _) (.cons (.nil _) p1)))))))) .nil)) fun v12 h => ?_;refine iL h fun h => ?_;refine cP h Zt p2 fun v15 h => ?_;cases h; exact (.p _)
 refine cP h Qk (.cons (Frz.agg' (Y5 (f2_ (f1_ (.cons (.p _) p5))))) (.cons (Frz.agg' (Y5 (f2_ (f1_ (.cons (.nil _) (f2_ (.cons (.nil _) (.cons (.nil _) p1)))))))) .nil)) fun v17 h => ?_;refine iL h fun h => ?_;refine cP h Zt p2 fun v20 h => ?_;cases h; exact (.p _)
def Q1e (N : Nat) (version : Int) (p : Q3) : Option ((List UInt8) × Int) :=
 (Q0g N version p).bind fun v1 =>
 cond (Q7 .neq v1 0)
 (some ([], v1))
 ((Zk N (wrap .u64 p.ID) 2).bind fun v4 =>
 cond (Q7 .neq p.Code 0)
 ((Zk N (wrap .u64 p.Code) 1).bind fun v7 =>
 cond (Nat.ble (v4.length + v7.length) 4611686018427387904) (cond (Q7 .neq ((Q6 Q1.cells p.Props).length : Int) 0)
 ((Ym N p.Kind p.Props).bind fun v11 =>
 cond (Nat.ble ((v4 ++ v7).length + v11.1.length) 4611686018427387904) (some (((v4 ++ v7) ++ v11.1), 0)) none)
 (some ((v4 ++ v7), 0))) none)
 (cond (Q7 .neq ((Q6 Q1.cells p.Props).length : Int) 0)
 ((Zk N (wrap .u64 p.Code) 1).bind fun v15 =>
 cond (Nat.ble (v4.length + v15.length) 4611686018427387904) ((Ym N p.Kind p.Props).bind fun v18 =>
 cond (Nat.ble ((v4 ++ v15).length + v18.1.length) 4611686018427387904) (some (((v4 ++ v15) ++ v18.1), 0)) none) none)
 (some (v4, 0))))
theorem Qax {N} {version} {p} {r} (h : Q1e N version p = some r) : pU 43 [.int .i64 version, .agg (Q3.cells p)] (.tuple [.str r.1, .int .i64 r.2]) := by
 refine Q0 k43 ?_;unfold Q1e at h;rw [cX] at h;refine cP h Q9a (.cons (.p _) (.cons (Frz.agg' (Y5 (f2_ (f1_ (.cons (.p _) p5))))) .nil)) fun v1 h => ?_;refine iL2 h fun h => ?_;refine cP h Z6 p2 fun v4 h => ?_;apply iU h <;> intro h
 ·refine cP h Z6 p2 fun v7 h => ?_;refine kU h fun h => ?_;refine iR2 h fun h => ?_;refine cP h X6 p2 fun v11 h => ?_;refine kU h fun h => ?_;obtain rfl := Qo h; exact u2
 refine ifO h (fun hc14 h => ?_) (fun hc14 h => ?_)
 ·refine cP h Z6 p2 fun v15 h => ?_;refine kU h fun h => ?_;refine ifT hc14 ?_;refine cP h X6 p2 fun v18 h => ?_;refine kU h fun h => ?_;obtain rfl := Qo h; exact u2
 refine ifF hc14 ?_;obtain rfl := Qo h; exact u2
def Yo (N : Nat) (d : Qn) : Option ((List UInt8) × Int) :=
 (Q1e N d.version d.p).bind fun v1 =>
 some (v1.1, v1.2)
theorem V1 {N} {d} {r} (h : Yo N d = some r) : pU 33 [.agg (Qn.cells d)] (.tuple [.str r.1, .int .i64 r.2]) := by
 refine Q0 k33 ?_;unfold Yo at h;refine cP h Qax (.cons (.p _) (.cons (Frz.agg' (Y5 (f2_ (f1_ (.cons (.p _) p5))))) .nil)) fun v1 h => ?_;obtain rfl := Qo h; exact u2
def Ug (_N : Nat) (code : Int) : Option Bool :=
 cond (Q7 .eql code 0)
 (some true)
 (cond (Q7 .eql code 1)
 (some true)
 (cond (Q7 .eql code 2)
 (some true)
 (cond (Q7 .eql code 128)
 (some true)
 (some false))))
theorem Q6q {N} {code} {r} (h : Ug N code = some r) : pU 158 [.int .i64 code] (.bool r) := by
 refine Q0 Qsl ?_;unfold Ug at h;rw [cX] at h;refine ifO h (fun hc1 h => ?_) (fun hc1 h => ?_)
 ·refine ifT hc1 ?_;cases h; exact (.p _)
 refine ifO h (fun hc2 h => ?_) (fun hc2 h => ?_)
 ·refine ifT hc2 ?_;cases h; exact (.p _)
 refine ifO h (fun hc3 h => ?_) (fun hc3 h => ?_)
 ·refine ifT hc3 ?_;cases h; exact (.p _)
 exact iB h
def Xw (N : Nat) (version : Int) (kind : Int) (code : Int) : Option Bool :=
 cond (Q7 .eql version 4)
 ((Ug N code).bind fun v2 =>
 some v2)
 ((Wu N kind code).bind fun v4 =>
 some v4)
theorem Q2c {N} {version} {kind} {code} {r} (h : Xw N version kind code = some r) : pU 112 [.int .i64 version, .int .i64 kind, .int .i64 code] (.bool r) := by
 refine Q0 Qrl ?_;unfold Xw at h;rw [cX] at h;apply iU h <;> intro h
 ·refine cP h Q6q p1 fun v2 h => ?_;cases h; exact (.p _)
 refine cP h U1 p2 fun v4 h => ?_;cases h; exact (.p _)
def Wn (_N : Nat) (version : Int) (kind : Int) : Option Bool :=
 cond (Q7 .eql version 4)
 (cond (Q7 .geq kind 8)
 (some (Q7 .leq kind 11))
 (some false))
 (cond (Q7 .eql version 5)
 (cond (Q7 .geq kind 8)
 (some (Q7 .leq kind 11))
 (some false))
 (some false))
theorem Q3j {N} {version} {kind} {r} (h : Wn N version kind = some r) : pU 74 [.int .i64 version, .int .i64 kind] (.bool r) := by
 refine Q0 k74 ?_;unfold Wn at h;rw [cX] at h;apply iU h <;> intro h
 ·exact iB h
 refine iR h fun h => ?_;exact iB h
def Xb (_N : Nat) (version : Int) (kind : Int) : Option Bool :=
 cond (Q7 .eql kind 11)
 (some (Q7 .eql version 4))
 (some false)
theorem G5 {N} {version} {kind} {r} (h : Xb N version kind = some r) : pU 153 [.int .i64 version, .int .i64 kind] (.bool r) := by
 refine Q0 Qsr ?_;unfold Xb at h;rw [cX] at h;exact iB h
def Yx (_N : Nat) (kind : Int) : Option Bool :=
 cond (Q7 .eql kind 8)
 (some true)
 (some (Q7 .eql kind 10))
theorem Jl {N} {kind} {r} (h : Yx N kind = some r) : pU 117 [.int .i64 kind] (.bool r) := by
 refine Q0 Qw6 ?_;unfold Yx at h;rw [cX] at h;exact iB h
def Wb (N : Nat) (version : Int) (p : Q3) : Option Bool :=
 cond (Q7 .lss p.ID 1)
 (some false)
 (cond (Q7 .gtr p.ID 65535)
 (some false)
 (cond (Q7 .eql version 4)
 (cond (Q7 .gtr ((Q6 Q1.cells p.Props).length : Int) 0)
 (some false)
 ((Yx N p.Kind).bind fun v5 =>
 cond v5
 (cond (Q7 .gtr ((Q6 Q2.cells p.Filters).length : Int) 0)
 ((Qw N p (⟨p.Kind, false, false, 0, p.ID, [], [], false, 0, [], false, [], false, [], false, (⟨[], [], 0, false, []⟩ : Xe), false, 0, [], p.Filters, p.Props⟩ : Q3)).bind fun v9 =>
 some v9)
 (some false))
 ((Xb N version p.Kind).bind fun v11 =>
 cond v11
 ((Qw N p (⟨p.Kind, false, false, 0, p.ID, [], [], false, 0, [], false, [], false, [], false, (⟨[], [], 0, false, []⟩ : Xe), false, 0, [], [], p.Props⟩ : Q3)).bind fun v14 =>
 some v14)
 (cond (Q7 .gtr ((Q6 (cI .i64) p.Codes).length : Int) 0)
 ((Qw N p (⟨p.Kind, false, false, 0, p.ID, [], [], false, 0, [], false, [], false, [], false, (⟨[], [], 0, false, []⟩ : Xe), false, 0, p.Codes, [], p.Props⟩ : Q3)).bind fun v17 =>
 some v17)
 (some false)))))
 ((Yx N p.Kind).bind fun v19 =>
 cond v19
 (cond (Q7 .gtr ((Q6 Q2.cells p.Filters).length : Int) 0)
 ((Qw N p (⟨p.Kind, false, false, 0, p.ID, [], [], false, 0, [], false, [], false, [], false, (⟨[], [], 0, false, []⟩ : Xe), false, 0, [], p.Filters, p.Props⟩ : Q3)).bind fun v23 =>
 some v23)
 (some false))
 ((Xb N version p.Kind).bind fun v25 =>
 cond v25
 ((Qw N p (⟨p.Kind, false, false, 0, p.ID, [], [], false, 0, [], false, [], false, [], false, (⟨[], [], 0, false, []⟩ : Xe), false, 0, [], [], p.Props⟩ : Q3)).bind fun v28 =>
 some v28)
 (cond (Q7 .gtr ((Q6 (cI .i64) p.Codes).length : Int) 0)
 ((Qw N p (⟨p.Kind, false, false, 0, p.ID, [], [], false, 0, [], false, [], false, [], false, (⟨[], [], 0, false, []⟩ : Xe), false, 0, p.Codes, [], p.Props⟩ : Q3)).bind fun v31 =>
 some v31)
 (some false))))))
theorem Q2n {N} {version} {p} {r} (h : Wb N version p = some r) : pU 109 [.int .i64 version, .agg (Q3.cells p)] (.bool r) := by
 refine Q0 Quw ?_;unfold Wb at h;rw [cX] at h;refine iL h fun h => ?_;refine iL h fun h => ?_;apply iU h <;> intro h
 ·refine iL h fun h => ?_;refine cP h Jl p1 fun v5 h => ?_;apply iU h <;> intro h
  ·refine iR h fun h => ?_;refine cP h Qk (.cons (Frz.agg' (Y5 (f2_ (f1_ (.cons (.p _) p5))))) (.cons (Frz.agg' (Y5 (f2_ (f1_ (.cons (.nil _) (f2_ (.cons (.nil _) p2))))))) .nil)) fun v9 h => ?_;cases h; exact (.p _)
  refine cP h G5 p2 fun v11 h => ?_;apply iU h <;> intro h
  ·refine cP h Qk (.cons (Frz.agg' (Y5 (f2_ (f1_ (.cons (.p _) p5))))) (.cons (Frz.agg' (Y5 (f2_ (f1_ (.cons (.nil _) (f2_ (.cons (.nil _) (.cons (.nil _) p1)))))))) .nil)) fun v14 h => ?_;cases h; exact (.p _)
  refine iR h fun h => ?_;refine cP h Qk (.cons (Frz.agg' (Y5 (f2_ (f1_ (.cons (.p _) p5))))) (.cons (Frz.agg' (Y5 (f2_ (f1_ (.cons (.nil _) (f2_ (f1_ (.cons (.nil _) p1)))))))) .nil)) fun v17 h => ?_;cases h; exact (.p _)
 refine cP h Jl p1 fun v19 h => ?_;apply iU h <;> intro h
 ·refine iR h fun h => ?_;refine cP h Qk (.cons (Frz.agg' (Y5 (f2_ (f1_ (.cons (.p _) p5))))) (.cons (Frz.agg' (Y5 (f2_ (f1_ (.cons (.nil _) (f2_ (.cons (.nil _) p2))))))) .nil)) fun v23 h => ?_;cases h; exact (.p _)
 refine cP h G5 p2 fun v25 h => ?_;apply iU h <;> intro h
 ·refine cP h Qk (.cons (Frz.agg' (Y5 (f2_ (f1_ (.cons (.p _) p5))))) (.cons (Frz.agg' (Y5 (f2_ (f1_ (.cons (.nil _) (f2_ (.cons (.nil _) (.cons (.nil _) p1)))))))) .nil)) fun v28 h => ?_;cases h; exact (.p _)
 refine iR h fun h => ?_;refine cP h Qk (.cons (Frz.agg' (Y5 (f2_ (f1_ (.cons (.p _) p5))))) (.cons (Frz.agg' (Y5 (f2_ (f1_ (.cons (.nil _) (f2_ (f1_ (.cons (.nil _) p1)))))))) .nil)) fun v31 h => ?_;cases h; exact (.p _)
def Vi (_N : Nat) (s_0 : List UInt8) : Option Bool :=
 cond (Gp .eql s_0 [43])
 (some true)
 (some (Gp .eql s_0 [35]))
theorem Q2m {N} {s_0} {r} (h : Vi N s_0 = some r) : pU 177 [.str s_0] (.bool r) := by
 refine Q0 Qs7 ?_;unfold Vi at h;rw [cY] at h;exact iB h
def Ql (N : Nat) (l : List (List UInt8)) : Nat → Int → Option Bool
 | 0, _ => none
 | n + 1, s36 =>
  cond (Q7 .lss s36 ((Q6 cS l).length : Int))
  ((idx l s36).bind fun y38 =>
  cond (Gp .eql y38 [35])
  (cond (!(Q7 .eql (wrap .i64 (s36 + 1)) ((Q6 cS l).length : Int)))
  (some false)
  ((Vi N y38).bind fun v42 =>
  cond (!v42)
  ((Z3 N y38).bind fun v45 =>
  cond v45
  (some false)
  (Ql N l n (wrap .i64 (s36 + 1))))
  (Ql N l n (wrap .i64 (s36 + 1)))))
  ((Vi N y38).bind fun v48 =>
  cond (!v48)
  ((Z3 N y38).bind fun v51 =>
  cond v51
  (some false)
  (Ql N l n (wrap .i64 (s36 + 1))))
  (Ql N l n (wrap .i64 (s36 + 1)))))
  (some true)
def Uh (N : Nat) (l : List (List UInt8)) : Option Bool :=
 Ql N l N 0
theorem Q5y {N} {l} {r} (h : Uh N l = some r) : pU 154 [.slice 1 (Q6 cS l)] (.bool r) := by
 refine Q0 Qsq ?_;unfold Uh at h;refine lpH (τ := Int) (fun s36 => (.p (.slice 1 (Q6 cS l)) :: a4 (.any :: .p (.slice 1 (Q6 cS l)) :: iI ((Q6 cS l).length : Int) :: iI s36 :: a16 (a8 (.any :: []))) : List AV)) (fun n0 s36 => Ql N l n0 s36) (0) h fun n0 s36 h => ?_
 first | rw [Ql] at h | simp only [Ql] at h
 rw [cX, cY] at h;refine iR h fun h => ?_;refine xR h fun y38 h => ?_;apply iU h <;> intro h
 ·refine iL h fun h => ?_;refine cP h Q2m p1 fun v42 h => ?_;apply iU h <;> intro h
  ·refine cP h Xu p2 fun v45 h => ?_;refine iL h fun h => ?_;show Exists _;exact ⟨(n0, (wrap .i64 (s36 + 1))), h, Lg _, (fun i => i), Vf⟩
  show Exists _;exact ⟨(n0, (wrap .i64 (s36 + 1))), h, Lg _, (fun i => i), Vf⟩
 refine cP h Q2m p1 fun v48 h => ?_;apply iU h <;> intro h
 ·refine cP h Xu p2 fun v51 h => ?_;refine iL h fun h => ?_;show Exists _;exact ⟨(n0, (wrap .i64 (s36 + 1))), h, Lg _, (fun i => i), Vf⟩
 show Exists _;exact ⟨(n0, (wrap .i64 (s36 + 1))), h, Lg _, (fun i => i), Vf⟩
def Z0 (N : Nat) (s_0 : List UInt8) : Nat → Int → Nat → Option Int
 | 0, _, _ => none
 | n + 1, n5, pos6 =>
  cond (Nat.blt pos6 s_0.length)
  (Z0 N s_0 n (wrap .i64 (n5 + 1)) (pos6 + (Q5w s_0 pos6).2))
  (some n5)
def Yp (N : Nat) (s_0 : List UInt8) : Option Int :=
 Z0 N s_0 N 0 0
theorem Ux {N} {s_0} {r} (h : Yp N s_0 = some r) : pU 211 [.str s_0] (.int .i64 r) := by
 refine Q0 Qt9 ?_;unfold Yp at h;refine lpA (τ := Int × Nat) (fun ⟨n5, _⟩ => (.any :: .any :: iI n5 :: .any :: .ptr 0 0 :: a4 (.any :: []) : List AV)) (fun ⟨_, pos6⟩ => (.strIter s_0 pos6 :: [] : List AObj)) (fun n0 ⟨n5, pos6⟩ => Z0 N s_0 n0 n5 pos6) (0, 0) h fun n0 ⟨n5, pos6⟩ h => ?_
 first | rw [Z0] at h | simp only [Z0] at h
 refine iR h fun h => ?_;show Exists _;exact ⟨(n0, (wrap .i64 (n5 + 1)), (pos6 + (Q5w s_0 pos6).2)), h, Lg _, (fun i => i), Vf⟩
end
end
end Go.Av
