/- Part of the proof of EventOwn: for every input the law returns true; no condition. -/
import Derived.Test.YtnbdhlnkhdhohaaGreatDoorLiftTy
import Derived.Test.YtnbdhlnkhdhohaaGreatDoorChks
import Derived.Test.YtnbdhlnkhdhohaaGreatDoorSeat1
import Derived.Test.YtnbdhlnkhdhohaaGreatDoorLiftG
import Derived.Test.YtnbdhlnkhdhohaaGreatDoorRound
import Derived.Test.YtnbdhlnkhdhohaaGreatDoorMans
import Derived.Test.YtnbdhlnkhdhohaaGreatDoorShelfJ
import Derived.Test.YtnbdhlnkhdhohaaGreatDoorClones
namespace Go.Av
noncomputable section
open Go.Proofs
set_option maxRecDepth 100000
set_option maxHeartbeats 4000000
attribute [local irreducible] Vp Xe Q79 Qc9 Qpg Qpp Qgl
section
abbrev pU := Gt Tryz.prog G1
abbrev gU := GC Tryz.prog G1
theorem Qzk : pU 5 [] (.bool true) := Qe Q6y (N := 4000) (d := 60) (by kernel_rfl)

def Gq : List (Int × Jy) := [(1, (⟨[109, 113, 116, 116, 51]⟩ : Jy)), (2, (⟨[109, 113, 116, 116, 53]⟩ : Jy)), (3, (⟨[115, 110]⟩ : Jy)), (4, (⟨[97, 109, 113, 112]⟩ : Jy))]
theorem Qcs : pU 25 [] (.pmap (Z1v (fun v => .agg (Jy.cells v)) Gq)) := Qe Q6y (N := 2000) (d := 60) (by kernel_rfl)
def Zq (N : Nat) (l : List Ql) : Nat → Int → Option (Bool)
 | 0, _ => none
 | n + 1, i17 =>
  cond (Q3 .lss i17 ((Q8 Ql.cells l).length : Int))
  ((idx l i17).bind fun y19 =>
  cond (Q3 .gtr (y19.Text.length : Int) 300)
  (some false)
  ((idx l i17).bind fun y22 =>
  cond (Q3 .gtr (y22.Value.length : Int) 300)
  (some false)
  (Zq N l n (IntKind.wrap .i64 (i17 + 1)))))
  (some (Q3 .leq ((Q8 Ql.cells l).length : Int) 30))
def Z3 (N : Nat) (l : List Ql) : Option (Bool) :=
 Zq N l N 0
theorem X8 {N} {l} {r} (h : Z3 N l = some r) : pU 27 [.slice 4 (Q8 Ql.cells l)] (.bool r) := by
 refine Q2 k27 ?_;unfold Z3 at h;refine lpH (τ := Int) (fun i17 => (.p (.slice 4 (Q8 Ql.cells l)) :: .any :: .any :: iI i17 :: a16 (a8 (.any :: [])) : List AV)) (fun n0 i17 => Zq N l n0 i17) (0) h fun n0 i17 h => ?_
 first | rw [Zq] at h | simp only [Zq] at h
 rw [cX] at h;refine iR h fun h => ?_;refine xR h fun y19 h => ?_;refine iL h fun h => ?_;refine xR h fun y22 h => ?_;refine iL h fun h => ?_;show Exists _;exact ⟨(n0, (IntKind.wrap .i64 (i17 + 1))), h, Le _, (fun i => i), Zc⟩
def Zk (N : Nat) (p : Qa) : Nat → Int → Option (Bool)
 | 0, _ => none
 | n + 1, i11 =>
  cond (Q3 .lss i11 ((Q8 Qn.cells p.Filters).length : Int))
  (cond (Q3 .lss i11 31)
  ((idx p.Filters i11).bind fun y14 =>
  cond (Q3 .gtr (y14.Topic.length : Int) 2000)
  (some false)
  (Zk N p n (IntKind.wrap .i64 (i11 + 1))))
  (cond (Q3 .leq (p.Topic.length : Int) 2000)
  (cond (Q3 .leq (p.Payload.length : Int) 2000)
  (cond (Q3 .leq (p.Client.length : Int) 2000)
  (cond (Q3 .leq (p.User.length : Int) 2000)
  (cond (Q3 .leq (p.Pass.length : Int) 2000)
  (cond (Q3 .leq (p.Will.Topic.length : Int) 2000)
  (cond (Q3 .leq (p.Will.Payload.length : Int) 2000)
  (cond (Q3 .leq ((Q8 (cI .i64) p.Codes).length : Int) 30)
  (cond (Q3 .leq ((Q8 Qn.cells p.Filters).length : Int) 30)
  ((Z3 N p.Props).bind fun v26 =>
  cond v26
  ((Z3 N p.Will.Props).bind fun v29 =>
  some v29)
  (some false))
  (some false))
  (some false))
  (some false))
  (some false))
  (some false))
  (some false))
  (some false))
  (some false))
  (some false)))
  (cond (Q3 .leq (p.Topic.length : Int) 2000)
  (cond (Q3 .leq (p.Payload.length : Int) 2000)
  (cond (Q3 .leq (p.Client.length : Int) 2000)
  (cond (Q3 .leq (p.User.length : Int) 2000)
  (cond (Q3 .leq (p.Pass.length : Int) 2000)
  (cond (Q3 .leq (p.Will.Topic.length : Int) 2000)
  (cond (Q3 .leq (p.Will.Payload.length : Int) 2000)
  (cond (Q3 .leq ((Q8 (cI .i64) p.Codes).length : Int) 30)
  (cond (Q3 .leq ((Q8 Qn.cells p.Filters).length : Int) 30)
  ((Z3 N p.Props).bind fun v40 =>
  cond v40
  ((Z3 N p.Will.Props).bind fun v43 =>
  some v43)
  (some false))
  (some false))
  (some false))
  (some false))
  (some false))
  (some false))
  (some false))
  (some false))
  (some false))
  (some false))
def Vh (N : Nat) (p : Qa) : Option (Bool) :=
 Zk N p N 0
theorem Q4p {N} {p} {r} (h : Vh N p = some r) : pU 28 [.agg (Qa.cells p)] (.bool r) := by
 refine Q2 k28 ?_;unfold Vh at h;refine lpH (τ := Int) (fun i11 => (.any :: .ptr 0 0 :: .any :: iI i11 :: a16 (a16 (a16 (a16 (a16 (a4 ([])))))) : List AV)) (fun n0 i11 => Zk N p n0 i11) (0) h fun n0 i11 h => ?_
 first | rw [Zk] at h | simp only [Zk] at h
 rw [cX] at h;apply iU h <;> intro h
 ·apply iU h <;> intro h
  ·refine xR h fun y14 h => ?_;refine iL h fun h => ?_;show Exists _;exact ⟨(n0, (IntKind.wrap .i64 (i11 + 1))), h, Le _, (fun i => i), Zc⟩
  refine iR h fun h => ?_;refine iR h fun h => ?_;refine iR h fun h => ?_;refine iR h fun h => ?_;refine iR h fun h => ?_;refine iR h fun h => ?_;refine iR h fun h => ?_;refine iR h fun h => ?_;refine iR h fun h => ?_;refine cP h X8 p1 fun v26 h => ?_;refine iR h fun h => ?_;refine cP h X8 p1 fun v29 h => ?_;cases h; exact (.p _)
 refine iR h fun h => ?_;refine iR h fun h => ?_;refine iR h fun h => ?_;refine iR h fun h => ?_;refine iR h fun h => ?_;refine iR h fun h => ?_;refine iR h fun h => ?_;refine iR h fun h => ?_;refine iR h fun h => ?_;refine cP h X8 p1 fun v40 h => ?_;refine iR h fun h => ?_;refine cP h X8 p1 fun v43 h => ?_;cases h; exact (.p _)
def Gn (_N : Nat) (m : Q14) : Option (Bool) :=
 cond (Q3 .leq (m.Name.length : Int) 70000)
 (some (Q3 .leq (m.Data.length : Int) 70000))
 (some false)
theorem Q6j {N} {m} {r} (h : Gn N m = some r) : pU 61 [.agg (Q14.cells m)] (.bool r) := by
 refine Q2 k61 ?_;unfold Gn at h;rw [cX] at h;exact iB h
def Zd (N : Nat) (d : Wd) : Nat → Int → Option (Bool)
 | 0, _ => none
 | n + 1, i14 =>
  cond (Q3 .lss i14 ((Q8 Q0t.cells d.Hops).length : Int))
  ((idx d.Hops i14).bind fun y16 =>
  cond (Q3 .gtr (y16.Node.length : Int) 300)
  (some false)
  (Zd N d n (IntKind.wrap .i64 (i14 + 1))))
  (some true)
def Wm (N : Nat) (d : Wd) : Option (Bool) :=
 cond (Q3 .gtr ((Q8 Q0t.cells d.Hops).length : Int) 8)
 (some false)
 ((Gn N d.Msg).bind fun v2 =>
 cond (!v2)
 (some false)
 (Zd N d N 0))
theorem Q49 {N} {d} {r} (h : Wm N d = some r) : pU 29 [.agg (Wd.cells d)] (.bool r) := by
 refine Q2 k29 ?_;unfold Wm at h;rw [cX] at h;refine iL h fun h => ?_;refine cP h Q6j (.cons (Frz.agg' (f8_ (f2_ (.cons (.p _) p5)))) .nil) fun v2 h => ?_;refine iL h fun h => ?_;refine lpH (τ := Int) (fun i14 => (.any :: .ptr 0 0 :: .any :: iI i14 :: a16 (a8 (.any :: [])) : List AV)) (fun n0 i14 => Zd N d n0 i14) (0) h fun n0 i14 h => ?_
 first | rw [Zd] at h | simp only [Zd] at h
 rw [cX] at h;refine iR h fun h => ?_;refine xR h fun y16 h => ?_;refine iL h fun h => ?_;show Exists _;exact ⟨(n0, (IntKind.wrap .i64 (i14 + 1))), h, Le _, (fun i => i), Zc⟩
def Zs (rv : Q1 → Int → Int → Option (Int)) (N : Nat) (v : Q1) (deep : Int) (most : Int) : Nat → Int → Int → Option (Int)
 | 0, _, _ => none
 | n + 1, n18, i19 =>
  cond (Q3 .lss i19 ((Q1.rows v.Items).length : Int))
  (cond (Q3 .leq n18 most)
  ((idx v.Items i19).bind fun y22 =>
  (rv y22 (IntKind.wrap .i64 (deep - 1)) (IntKind.wrap .i64 (most - n18))).bind fun v24 =>
  Zs rv N v deep most n (IntKind.wrap .i64 (n18 + v24)) (IntKind.wrap .i64 (i19 + 1)))
  (some n18))
  (some n18)
def Ut (rv : Q1 → Int → Int → Option (Int)) (N : Nat) (v : Q1) (deep : Int) (most : Int) : Option (Int) :=
 cond (Q3 .lss deep 0)
 (some (IntKind.wrap .i64 (most + 1)))
 (cond (Q3 .gtr ((Q1.rows v.Items).length : Int) most)
 (some (IntKind.wrap .i64 (most + 1)))
 (cond (Q3 .gtr (v.Text.length : Int) 400)
 (some (IntKind.wrap .i64 (most + 1)))
 (Zs rv N v deep most N 1 0)))
theorem Q7z {rv : Q1 → Int → Int → Option (Int)} (hx1 : ∀ {v} {deep} {most} {r}, rv v deep most = some r → pU 82 [.agg (Q1.cells v), .int .i64 deep, .int .i64 most] (.int .i64 r)) {N} {v} {deep} {most} {r} (h : Ut rv N v deep most = some r) : pU 82 [.agg (Q1.cells v), .int .i64 deep, .int .i64 most] (.int .i64 r) := by
 refine Q2 k82 ?_;unfold Ut at h;rw [cX] at h;refine iL h fun h => ?_;refine iL h fun h => ?_;refine iL h fun h => ?_;refine lpH (τ := Int × Int) (fun ⟨n18, i19⟩ => (.any :: iI deep :: iI most :: .ptr 0 0 :: a2 (.any :: iI n18 :: iI i19 :: a16 (a16 (a8 (a2 (.any :: []))))) : List AV)) (fun n0 ⟨n18, i19⟩ => Zs rv N v deep most n0 n18 i19) (1, 0) h fun n0 ⟨n18, i19⟩ h => ?_
 first | rw [Zs] at h | simp only [Zs] at h
 rw [cX] at h;refine iR h fun h => ?_;refine iR h fun h => ?_;refine Q1.xR h fun y22 h => ?_;refine cP h hx1 (.cons q4 p2) fun v24 h => ?_;show Exists _;exact ⟨(n0, (IntKind.wrap .i64 (n18 + v24)), (IntKind.wrap .i64 (i19 + 1))), h, Le _, (fun i => i), Zc⟩
def Zh : Nat → Q1 → Int → Int → Option (Int)
 | 0 => fun _ _ _ => none
 | N + 1 => Ut (Zh N) N
theorem Q82 {N} {v} {deep} {most} {r} (h : Zh N v deep most = some r) : pU 82 [.agg (Q1.cells v), .int .i64 deep, .int .i64 most] (.int .i64 r) := by
 induction N generalizing v deep most r with
 | zero => simp [Zh] at h
 | succ N ih => exact Q7z (fun h => ih h) h
def Wc (N : Nat) (v : Q1) : Option (Bool) :=
 (Zh N v 6 40).bind fun v1 =>
 some (Q3 .leq v1 40)
theorem Q5o {N} {v} {r} (h : Wc N v = some r) : pU 62 [.agg (Q1.cells v)] (.bool r) := by
 refine Q2 k62 ?_;unfold Wc at h;rw [cX] at h;refine cP h Q82 (.cons q4 p2) fun v1 h => ?_;cases h; exact (.p _)
def Z1 (N : Nat) (f : Yj) : Nat → Int → Option (Bool)
 | 0, _ => none
 | n + 1, i17 =>
  cond (Q3 .lss i17 ((Q1.rows f.Values).length : Int))
  ((idx f.Values i17).bind fun y19 =>
  (Wc N y19).bind fun v21 =>
  cond (!v21)
  (some false)
  (Z1 N f n (IntKind.wrap .i64 (i17 + 1))))
  (some true)
def Zv (N : Nat) (f : Yj) : Option (Bool) :=
 cond (Q3 .gtr ((Q1.rows f.Values).length : Int) 6)
 (some false)
 (cond (Q3 .gtr (f.Ext.length : Int) 1100)
 (some false)
 (Z1 N f N 0))
theorem Q5c {N} {f} {r} (h : Zv N f = some r) : pU 30 [.agg (Yj.cells f)] (.bool r) := by
 refine Q2 k30 ?_;unfold Zv at h;rw [cX] at h;refine iL h fun h => ?_;refine iL h fun h => ?_;refine lpH (τ := Int) (fun i17 => (.any :: .ptr 0 0 :: .any :: iI i17 :: a16 (a8 ([])) : List AV)) (fun n0 i17 => Z1 N f n0 i17) (0) h fun n0 i17 h => ?_
 first | rw [Z1] at h | simp only [Z1] at h
 rw [cX] at h;refine iR h fun h => ?_;refine Q1.xR h fun y19 h => ?_;refine cP h Q5o (.cons q4 .nil) fun v21 h => ?_;refine iL h fun h => ?_;show Exists _;exact ⟨(n0, (IntKind.wrap .i64 (i17 + 1))), h, Le _, (fun i => i), Zc⟩
def Vq (N : Nat) (e : Qv) : Option (Bool) :=
 cond (Q3 .leq (e.Topic.length : Int) 2000)
 (cond (Q3 .leq (e.Payload.length : Int) 2000)
 ((Z3 N e.Props).bind fun v3 =>
 cond v3
 ((Vh N e.Packet).bind fun v6 =>
 cond v6
 ((Wm N (⟨e.Hops, e.Msg⟩ : Wd)).bind fun v9 =>
 cond v9
 ((Zv N e.Frame).bind fun v12 =>
 some v12)
 (some false))
 (some false))
 (some false))
 (some false))
 (some false)
theorem Q5d {N} {e} {r} (h : Vq N e = some r) : pU 13 [.agg (Qv.cells e)] (.bool r) := by
 refine Q2 k13 ?_;unfold Vq at h;rw [cX] at h;refine iR h fun h => ?_;refine iR h fun h => ?_;refine cP h X8 p1 fun v3 h => ?_;refine iR h fun h => ?_;refine cP h Q4p (.cons (Frz.agg' (Xt (f2_ (f1_ (.cons (.p _) p5))))) .nil) fun v6 h => ?_;refine iR h fun h => ?_;refine cP h Q49 (.cons (Frz.agg' (f8_ (f2_ (f1_ (.cons (.p _) p5))))) .nil) fun v9 h => ?_;refine iR h fun h => ?_;refine cP h Q5c (.cons q4 .nil) fun v12 h => ?_;cases h; exact (.p _)
def Q00 (N : Nat) (e : Qv) : Option (Bool) :=
 (Vq N e).bind fun v1 =>
 some v1
theorem Q70 {N} {e} {r} (h : Q00 N e = some r) : pU 6 [.agg (Qv.cells e)] (.bool r) := by
 refine Q2 k6 ?_;unfold Q00 at h;refine cP h Q5d (.cons (Frz.agg' (Xt (Xt (Xt (f2_ (f1_ (.cons (.p _) p5))))))) .nil) fun v1 h => ?_;cases h; exact (.p _)
def Q58 (N : Nat) (p : Qa) : Option (Qa) :=
 (Q7p N p.Codes).bind fun v1 =>
 (Q3u N p.Filters).bind fun v3 =>
 (Q04 N p.Props).bind fun v5 =>
 (Q04 N p.Will.Props).bind fun v7 =>
 some (⟨p.Kind, p.Dup, p.Retain, p.QoS, p.ID, p.Topic, p.Payload, p.Clean, p.KeepAlive, p.Client, p.HasUser, p.User, p.HasPass, p.Pass, p.HasWill, (⟨p.Will.Topic, p.Will.Payload, p.Will.QoS, p.Will.Retain, v7⟩ : Q10), p.Session, p.Code, v1, v3, v5⟩ : Qa)
theorem Qev {N} {p} {r} (h : Q58 N p = some r) : gU 16 (.p (.agg (Qa.cells p)) :: []) [] (.agg [.p (.int .i64 r.Kind), .p (.bool r.Dup), .p (.bool r.Retain), .p (.int .i64 r.QoS), .p (.int .i64 r.ID), .p (.str r.Topic), .p (.str r.Payload), .p (.bool r.Clean), .p (.int .i64 r.KeepAlive), .p (.str r.Client), .p (.bool r.HasUser), .p (.str r.User), .p (.bool r.HasPass), .p (.str r.Pass), .p (.bool r.HasWill), .p (.str r.Will.Topic), .p (.str r.Will.Payload), .p (.int .i64 r.Will.QoS), .p (.bool r.Will.Retain), .slice 4 0 0 r.Will.Props.length, .p (.bool r.Session), .p (.int .i64 r.Code), .slice 1 1 0 r.Codes.length, .slice 5 2 0 r.Filters.length, .slice 4 3 0 r.Props.length]) (.cells (Zz Ql.cells r.Will.Props) :: .cells (Zz (cI .i64) r.Codes) :: .cells (Zz Qn.cells r.Filters) :: .cells (Zz Ql.cells r.Props) :: []) := by
 refine X5 k16 (Lm rfl) ?_;unfold Q58 at h;refine Qc ?_;refine dcO h Qfx [2] (fun v1 => .slice 1 2 0 v1.length) (rE rfl <| rN) fun v1 h => ?_;refine dcO h Qbf [3] (fun v3 => .slice 5 3 0 v3.length) (rE rfl <| rN) fun v3 h => ?_;refine Qc ?_;refine dcO h Q4g [4] (fun v5 => .slice 4 4 0 v5.length) (rE rfl <| rN) fun v5 h => ?_;refine dcO h Q4g [5] (fun v7 => .slice 4 5 0 v7.length) (rE rfl <| rN) fun v7 h => ?_;obtain rfl := Qb h;show Exists _;exact ⟨(rho [5, 2, 3, 4]), ⟨(rG (rE rfl <| rE rfl <| rE rfl <| rE rfl <| rE rfl <| rE rfl <| rE rfl <| rE rfl <| rE rfl <| rE rfl <| rE rfl <| rE rfl <| rE rfl <| rE rfl <| rE rfl <| rE rfl <| rE rfl <| rE rfl <| rE rfl <| rE rfl <| rE rfl <| rE rfl <| rE rfl <| rE rfl <| rE rfl <| rN) <| rN), (hO rfl <| hO rfl <| hO rfl <| hO rfl <| hN), rfl, rfl, (roE (Wx _ _ _) <| roE (Wx _ _ _) <| roE (Wx _ _ _) <| roE (Wx _ _ _) <| roN)⟩⟩
def Wj (rz : Q1 → Option (Q1)) (N : Nat) (v : Q1) : Nat → Int → (List Q1) → Option (Q1)
 | 0, _, _ => none
 | n + 1, s14, l15 =>
  cond (Q3 .lss s14 ((Q1.rows v.Items).length : Int))
  ((idx v.Items s14).bind fun y17 =>
  (rz y17).bind fun v19 =>
  cond (Nat.ble ((l15.length + 1 + 4096) * 56) 17592186044416) (Wj rz N v n (IntKind.wrap .i64 (s14 + 1)) (l15 ++ [v19])) none)
  (some (⟨v.Kind, v.N', v.Text, l15⟩ : Q1))
def Q5q (rz : Q1 → Option (Q1)) (N : Nat) (v : Q1) : Option (Q1) :=
 Wj rz N v N 0 []
theorem Qcc {rz : Q1 → Option (Q1)} (hy1 : ∀ {v} {r}, rz v = some r → pU 17 [.agg (Q1.cells v)] (.agg (Q1.cells r))) {N} {v} {r} (h : Q5q rz N v = some r) : pU 17 [.agg (Q1.cells v)] (.agg (Q1.cells r)) := by
 refine Q2 k17 ?_;unfold Q5q at h;refine lpA (τ := Int × (List Q1)) (fun ⟨s14, _⟩ => (.any :: .any :: .ptr 1 0 :: .ptr 2 0 :: a8 (a2 (.p (.slice 4 (Q1.rows v.Items)) :: iI ((Q1.rows v.Items).length : Int) :: iI s14 :: a8 (a4 ([])))) : List AV)) (fun ⟨_, l15⟩ => (.cells (iI v.Kind :: iW v.N' :: iS v.Text :: .p (.slice 4 (Q1.rows v.Items)) :: []) :: .cells (iI 0 :: iW 0 :: iS [] :: .p .nilSlice :: []) :: .cells (iI v.Kind :: iW v.N' :: iS v.Text :: .slice 4 3 0 l15.length :: []) :: .cells (Zz Q1.cells l15) :: [] : List AObj)) (fun n0 ⟨s14, l15⟩ => Wj rz N v n0 s14 l15) (0, []) h fun n0 ⟨s14, l15⟩ h => ?_
 first | rw [Wj] at h | simp only [Wj] at h
 rw [cX] at h;apply iU h <;> intro h
 ·refine Q1.xR h fun y17 h => ?_;refine Qc ?_;refine cD h hy1 (.cons q4 .nil) fun v19 h => ?_;obtain ⟨hk21, h⟩ := Q4v h;refine Q0k (Xk (c := Q1.cells) (e := 4) (fun _ => rfl) sd hk21) ?_;refine Ux (c := Q1.cells) [v19] rfl ?_;show Exists _;exact ⟨(n0, (IntKind.wrap .i64 (s14 + 1)), (l15 ++ [v19])), h, Le _, (rho [0, 1, 2, 6]), Zc⟩
 obtain rfl := Qb h; exact (Frz.agg' (f2_ (f1_ (.cons (Q1.frz_own (l := l15) rfl trivial sd) .nil))))
def Un : Nat → Q1 → Option (Q1)
 | 0 => fun _ => none
 | N + 1 => Q5q (Un N) N
theorem Qbr {N} {v} {r} (h : Un N v = some r) : pU 17 [.agg (Q1.cells v)] (.agg (Q1.cells r)) := by
 induction N generalizing v r with
 | zero => simp [Un] at h
 | succ N ih => exact Qcc (fun h => ih h) h
def Vn (N : Nat) (e : Qv) (v1 : List Ql) (v3 : List Q0t) (v5 : Qa) : Nat → Int → (List Q1) → Option (Qv)
 | 0, _, _ => none
 | n + 1, s20, l21 =>
  cond (Q3 .lss s20 ((Q1.rows e.Frame.Values).length : Int))
  ((idx e.Frame.Values s20).bind fun y23 =>
  (Un N y23).bind fun v25 =>
  cond (Nat.ble ((l21.length + 1 + 4096) * 56) 17592186044416) (Vn N e v1 v3 v5 n (IntKind.wrap .i64 (s20 + 1)) (l21 ++ [v25])) none)
  (some (⟨e.Proto, e.Kind, e.Topic, e.Payload, e.QoS, e.Retain, e.Dup, e.ID, v1, e.Type', v3, e.Channel, v5, e.Msg, (⟨e.Frame.Type', e.Frame.Channel, e.Frame.Ext, l21⟩ : Yj)⟩ : Qv))
def Q68 (N : Nat) (e : Qv) : Option (Qv) :=
 (Q04 N e.Props).bind fun v1 =>
 (Q50 N e.Hops).bind fun v3 =>
 (Q58 N e.Packet).bind fun v5 =>
 Vn N e v1 v3 v5 N 0 []
theorem Qe7 {N} {e} {r} (h : Q68 N e = some r) : gU 7 (.p (.agg (Qv.cells e)) :: []) [] (.agg [.p (.int .i64 r.Proto), .p (.int .i64 r.Kind), .p (.str r.Topic), .p (.str r.Payload), .p (.int .i64 r.QoS), .p (.bool r.Retain), .p (.bool r.Dup), .p (.int .i64 r.ID), .slice 4 0 0 r.Props.length, .p (.int .i64 r.Type'), .slice 2 1 0 r.Hops.length, .p (.int .i64 r.Channel), .p (.int .i64 r.Packet.Kind), .p (.bool r.Packet.Dup), .p (.bool r.Packet.Retain), .p (.int .i64 r.Packet.QoS), .p (.int .i64 r.Packet.ID), .p (.str r.Packet.Topic), .p (.str r.Packet.Payload), .p (.bool r.Packet.Clean), .p (.int .i64 r.Packet.KeepAlive), .p (.str r.Packet.Client), .p (.bool r.Packet.HasUser), .p (.str r.Packet.User), .p (.bool r.Packet.HasPass), .p (.str r.Packet.Pass), .p (.bool r.Packet.HasWill), .p (.str r.Packet.Will.Topic), .p (.str r.Packet.Will.Payload), .p (.int .i64 r.Packet.Will.QoS), .p (.bool r.Packet.Will.Retain), .slice 4 2 0 r.Packet.Will.Props.length, .p (.bool r.Packet.Session), .p (.int .i64 r.Packet.Code), .slice 1 3 0 r.Packet.Codes.length, .slice 5 4 0 r.Packet.Filters.length, .slice 4 5 0 r.Packet.Props.length, .p (.int .i64 r.Msg.Type'), .p (.bool r.Msg.Flags.Dup), .p (.int .i64 r.Msg.Flags.QoS), .p (.bool r.Msg.Flags.Retain), .p (.bool r.Msg.Flags.Will), .p (.bool r.Msg.Flags.Clean), .p (.int .i64 r.Msg.Flags.Type'), .p (.int .i64 r.Msg.Gateway), .p (.int .i64 r.Msg.Radius), .p (.int .i64 r.Msg.Time), .p (.bool r.Msg.Timed), .p (.int .i64 r.Msg.TopicID), .p (.int .i64 r.Msg.MsgID), .p (.int .i64 r.Msg.Code), .p (.str r.Msg.Name), .p (.str r.Msg.Data), .p (.int .i64 r.Frame.Type'), .p (.int .i64 r.Frame.Channel), .p (.str r.Frame.Ext), .slice 4 6 0 r.Frame.Values.length]) (.cells (Zz Ql.cells r.Props) :: .cells (Zz Q0t.cells r.Hops) :: .cells (Zz Ql.cells r.Packet.Will.Props) :: .cells (Zz (cI .i64) r.Packet.Codes) :: .cells (Zz Qn.cells r.Packet.Filters) :: .cells (Zz Ql.cells r.Packet.Props) :: .cells (Zz Q1.cells r.Frame.Values) :: []) := by
 refine X5 k7 (Lm rfl) ?_;unfold Q68 at h;refine cO h Q4g (fun v1 => .slice 4 3 0 v1.length) (rE rfl <| rN) fun v1 h => ?_;refine cO h Qfi (fun v3 => .slice 2 4 0 v3.length) (rE rfl <| rN) fun v3 h => ?_;refine cO h Qev (fun v5 => .agg [iI v5.Kind, .p (.bool v5.Dup), .p (.bool v5.Retain), iI v5.QoS, iI v5.ID, iS v5.Topic, iS v5.Payload, .p (.bool v5.Clean), iI v5.KeepAlive, iS v5.Client, .p (.bool v5.HasUser), iS v5.User, .p (.bool v5.HasPass), iS v5.Pass, .p (.bool v5.HasWill), iS v5.Will.Topic, iS v5.Will.Payload, iI v5.Will.QoS, .p (.bool v5.Will.Retain), .slice 4 5 0 v5.Will.Props.length, .p (.bool v5.Session), iI v5.Code, .slice 1 6 0 v5.Codes.length, .slice 5 7 0 v5.Filters.length, .slice 4 8 0 v5.Props.length]) (rF (Frz.agg' (Xt (f2_ (f1_ (.cons (.p _) p5))))) <| rN) fun v5 h => ?_;refine lpA (τ := Int × (List Q1)) (fun ⟨s20, _⟩ => (.any :: .any :: .ptr 1 0 :: .ptr 2 0 :: a16 (a2 (.any :: .p (.slice 4 (Q1.rows e.Frame.Values)) :: iI ((Q1.rows e.Frame.Values).length : Int) :: iI s20 :: a8 (a4 (a2 ([]))))) : List AV)) (fun ⟨_, l21⟩ => (.cells (Qp8 e ([])) :: .cells (iI 0 :: iI 0 :: iS [] :: iS [] :: iI 0 :: .p (.bool false) :: .p (.bool false) :: iI 0 :: .p .nilSlice :: iI 0 :: .p .nilSlice :: iI 0 :: iI 0 :: .p (.bool false) :: .p (.bool false) :: iI 0 :: iI 0 :: iS [] :: iS [] :: .p (.bool false) :: iI 0 :: iS [] :: .p (.bool false) :: iS [] :: .p (.bool false) :: iS [] :: .p (.bool false) :: iS [] :: iS [] :: iI 0 :: .p (.bool false) :: .p .nilSlice :: .p (.bool false) :: iI 0 :: .p .nilSlice :: .p .nilSlice :: .p .nilSlice :: iI 0 :: .p (.bool false) :: iI 0 :: .p (.bool false) :: .p (.bool false) :: .p (.bool false) :: iI 0 :: iI 0 :: iI 0 :: iI 0 :: .p (.bool false) :: iI 0 :: iI 0 :: iI 0 :: iS [] :: iS [] :: iI 0 :: iI 0 :: iS [] :: .p .nilSlice :: []) :: .cells (iI e.Proto :: iI e.Kind :: iS e.Topic :: iS e.Payload :: iI e.QoS :: .p (.bool e.Retain) :: .p (.bool e.Dup) :: iI e.ID :: .slice 4 3 0 v1.length :: iI e.Type' :: .slice 2 4 0 v3.length :: iI e.Channel :: iI v5.Kind :: .p (.bool v5.Dup) :: .p (.bool v5.Retain) :: iI v5.QoS :: iI v5.ID :: iS v5.Topic :: iS v5.Payload :: .p (.bool v5.Clean) :: iI v5.KeepAlive :: iS v5.Client :: .p (.bool v5.HasUser) :: iS v5.User :: .p (.bool v5.HasPass) :: iS v5.Pass :: .p (.bool v5.HasWill) :: iS v5.Will.Topic :: iS v5.Will.Payload :: iI v5.Will.QoS :: .p (.bool v5.Will.Retain) :: .slice 4 5 0 v5.Will.Props.length :: .p (.bool v5.Session) :: iI v5.Code :: .slice 1 6 0 v5.Codes.length :: .slice 5 7 0 v5.Filters.length :: .slice 4 8 0 v5.Props.length :: Zr e.Msg (iI e.Frame.Type' :: iI e.Frame.Channel :: iS e.Frame.Ext :: .slice 4 9 0 l21.length :: [])) :: .cells (Zz Ql.cells v1) :: .cells (Zz Q0t.cells v3) :: .cells (Zz Ql.cells v5.Will.Props) :: .cells (Zz (cI .i64) v5.Codes) :: .cells (Zz Qn.cells v5.Filters) :: .cells (Zz Ql.cells v5.Props) :: .cells (Zz Q1.cells l21) :: [] : List AObj)) (fun n0 ⟨s20, l21⟩ => Vn N e v1 v3 v5 n0 s20 l21) (0, []) h fun n0 ⟨s20, l21⟩ h => ?_
 first | rw [Vn] at h | simp only [Vn] at h
 rw [cX] at h;apply iU h <;> intro h
 ·refine Q1.xR h fun y23 h => ?_;refine Qc ?_;refine cD h Qbr (.cons q4 .nil) fun v25 h => ?_;obtain ⟨hk27, h⟩ := Q4v h;refine Q0k (Xk (c := Q1.cells) (e := 4) (fun _ => rfl) sd hk27) ?_;refine Ux (c := Q1.cells) [v25] rfl ?_;show Exists _;exact ⟨(n0, (IntKind.wrap .i64 (s20 + 1)), (l21 ++ [v25])), h, Le _, (rho [0, 1, 2, 3, 4, 5, 6, 7, 8, 12]), Zc⟩
 obtain rfl := Qb h;show Exists _;exact ⟨(rho [3, 4, 5, 6, 7, 8, 9]), ⟨(rG (rE rfl <| rE rfl <| rE rfl <| rE rfl <| rE rfl <| rE rfl <| rE rfl <| rE rfl <| rE rfl <| rE rfl <| rE rfl <| rE rfl <| rE rfl <| rE rfl <| rE rfl <| rE rfl <| rE rfl <| rE rfl <| rE rfl <| rE rfl <| rE rfl <| rE rfl <| rE rfl <| rE rfl <| rE rfl <| rE rfl <| rE rfl <| rE rfl <| rE rfl <| rE rfl <| rE rfl <| rE rfl <| rE rfl <| rE rfl <| rE rfl <| rE rfl <| rE rfl <| rE rfl <| rE rfl <| rE rfl <| rE rfl <| rE rfl <| rE rfl <| rE rfl <| rE rfl <| rE rfl <| rE rfl <| rE rfl <| rE rfl <| rE rfl <| rE rfl <| rE rfl <| rE rfl <| rE rfl <| rE rfl <| rE rfl <| rE rfl <| rN) <| rN), (hO rfl <| hO rfl <| hO rfl <| hO rfl <| hO rfl <| hO rfl <| hO rfl <| hN), rfl, rfl, (roE (Wx _ _ _) <| roE (Wx _ _ _) <| roE (Wx _ _ _) <| roE (Wx _ _ _) <| roE (Wx _ _ _) <| roE (Wx _ _ _) <| roE (Wx _ _ _) <| roN)⟩⟩
def Gj (N : Nat) (a : List Ql) (b : List Ql) : Nat → Int → Option (Bool)
 | 0, _ => none
 | n + 1, s15 =>
  cond (Q3 .lss s15 ((Q8 Ql.cells a).length : Int))
  ((idx a s15).bind fun y17 =>
  (idx b s15).bind fun y19 =>
  cond (!(((y17.ID : Int) == y19.ID) && (((y17.N' : Int) == y19.N') && (((y17.Text : List UInt8) == y19.Text) && (((y17.Value : List UInt8) == y19.Value) && true)))))
  (some false)
  (Gj N a b n (IntKind.wrap .i64 (s15 + 1))))
  (some true)
def Q56 (N : Nat) (a : List Ql) (b : List Ql) : Option (Bool) :=
 cond (Q3 .neq ((Q8 Ql.cells a).length : Int) ((Q8 Ql.cells b).length : Int))
 (some false)
 (Gj N a b N 0)
theorem Qgy {N} {a} {b} {r} (h : Q56 N a b = some r) : pU 18 [.slice 4 (Q8 Ql.cells a), .slice 4 (Q8 Ql.cells b)] (.bool r) := by
 refine Q2 k18 ?_;unfold Q56 at h;rw [cX] at h;refine iL h fun h => ?_;refine lpH (τ := Int) (fun s15 => (.p (.slice 4 (Q8 Ql.cells a)) :: .p (.slice 4 (Q8 Ql.cells b)) :: a8 (a2 (iI ((Q8 Ql.cells a).length : Int) :: iI s15 :: a8 (a4 ([])))) : List AV)) (fun n0 s15 => Gj N a b n0 s15) (0) h fun n0 s15 h => ?_
 first | rw [Gj] at h | simp only [Gj] at h
 rw [cX] at h;refine iR h fun h => ?_;refine Qc ?_;refine xR h fun y17 h => ?_;refine xR h fun y19 h => ?_;refine iL h fun h => ?_;show Exists _;exact ⟨(n0, (IntKind.wrap .i64 (s15 + 1))), h, Le _, (fun i => i), Zc⟩
def Zf (N : Nat) (s1_0 : List Q0t) (s2_1 : List Q0t) : Nat → Int → Option (Bool)
 | 0, _ => none
 | n + 1, s15 =>
  cond (Q3 .lss s15 ((Q8 Q0t.cells s1_0).length : Int))
  ((idx s1_0 s15).bind fun y17 =>
  (idx s2_1 s15).bind fun y19 =>
  cond (!(((y17.Radius : Int) == y19.Radius) && (((y17.Node : List UInt8) == y19.Node) && true)))
  (some false)
  (Zf N s1_0 s2_1 n (IntKind.wrap .i64 (s15 + 1))))
  (some true)
def Yd (N : Nat) (s1_0 : List Q0t) (s2_1 : List Q0t) : Option (Bool) :=
 cond (Q3 .neq ((Q8 Q0t.cells s1_0).length : Int) ((Q8 Q0t.cells s2_1).length : Int))
 (some false)
 (Zf N s1_0 s2_1 N 0)
theorem Q2p {N} {s1_0} {s2_1} {r} (h : Yd N s1_0 s2_1 = some r) : pU 19 [.slice 2 (Q8 Q0t.cells s1_0), .slice 2 (Q8 Q0t.cells s2_1)] (.bool r) := by
 refine Q2 k19 ?_;unfold Yd at h;rw [cX] at h;refine iL h fun h => ?_;refine lpH (τ := Int) (fun s15 => (.p (.slice 2 (Q8 Q0t.cells s1_0)) :: .p (.slice 2 (Q8 Q0t.cells s2_1)) :: a8 (a2 (iI ((Q8 Q0t.cells s1_0).length : Int) :: iI s15 :: a8 (a4 ([])))) : List AV)) (fun n0 s15 => Zf N s1_0 s2_1 n0 s15) (0) h fun n0 s15 h => ?_
 first | rw [Zf] at h | simp only [Zf] at h
 rw [cX] at h;refine iR h fun h => ?_;refine Qc ?_;refine xR h fun y17 h => ?_;refine xR h fun y19 h => ?_;refine iL h fun h => ?_;show Exists _;exact ⟨(n0, (IntKind.wrap .i64 (s15 + 1))), h, Le _, (fun i => i), Zc⟩
def Q62 (_N : Nat) (p : Qa) : Option (Q72) :=
 some (⟨p.Kind, p.QoS, p.ID, p.KeepAlive, p.Code, p.Dup, p.Retain, p.Clean, p.HasUser, p.HasPass, p.HasWill, p.Session, p.Topic, p.Payload, p.Client, p.User, p.Pass⟩ : Q72)
theorem Q8r {N} {p} {r} (h : Q62 N p = some r) : pU 33 [.agg (Qa.cells p)] (.agg (Q72.cells r)) := by
 refine Q2 k33 ?_;unfold Q62 at h;obtain rfl := Qb h; exact (Frz.agg' (f8_ (f2_ (f1_ (.cons (.p _) p5)))))
end
end
end Go.Av
