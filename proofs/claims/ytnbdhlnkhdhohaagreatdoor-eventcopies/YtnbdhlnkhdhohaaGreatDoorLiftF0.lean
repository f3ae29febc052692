/- Part of the proof of EventCopies: for every input the law returns true; no condition. -/
import Derived.Test.YtnbdhlnkhdhohaaGreatDoorLiftTy
import Derived.Test.YtnbdhlnkhdhohaaGreatDoorChks
import Derived.Test.YtnbdhlnkhdhohaaGreatDoorSeat1
import Derived.Test.YtnbdhlnkhdhohaaGreatDoorLiftG
import Derived.Test.YtnbdhlnkhdhohaaGreatDoorRound
import Derived.Test.YtnbdhlnkhdhohaaGreatDoorMans
import Derived.Test.YtnbdhlnkhdhohaaGreatDoorShelfJ
import Derived.Test.YtnbdhlnkhdhohaaGreatDoorClones
namespace Go.Av
open Go.IntKind (wrap)
noncomputable section
open Go.Proofs
set_option maxRecDepth 100000
set_option maxHeartbeats 4000000
attribute [local irreducible] Vn Xj Q89 Qcy Qry Qrt Qh8
section
abbrev pU := Gv Tryz.prog G1
abbrev gU := GC Tryz.prog G1
theorem Z0j : pU 5 [] (.bool true) := Qg Q6w (N := 4000) (d := 60) (by kernel_rfl)

def Vx : List (Int × G9) := [(1, (⟨[109, 113, 116, 116, 51]⟩ : G9)), (2, (⟨[109, 113, 116, 116, 53]⟩ : G9)), (3, (⟨[115, 110]⟩ : G9)), (4, (⟨[97, 109, 113, 112]⟩ : G9))]
theorem Q78 : pU 25 [] (.pmap (Z2r (fun v => .agg (G9.cells v)) Vx)) := Qg Q6w (N := 2000) (d := 60) (by kernel_rfl)
def Q4c (N : Nat) (e : Qn) : Option (List UInt8) :=
 optC (Q7c Vx e.Proto) (fun m1 =>
 cond (Q3 .neq e.Kind 1)
 (cond (Nat.ble (m1.text.length + [32, 111, 116, 104, 101, 114].length) 4611686018427387904) (some (m1.text ++ [32, 111, 116, 104, 101, 114])) none)
 (cond (Nat.ble (m1.text.length + [32, 112, 117, 98, 108, 105, 115, 104, 32, 113].length) 4611686018427387904) ((Jn N e.QoS).bind fun v6 =>
 cond (Nat.ble ((m1.text ++ [32, 112, 117, 98, 108, 105, 115, 104, 32, 113]).length + v6.length) 4611686018427387904) (cond (Nat.ble (((m1.text ++ [32, 112, 117, 98, 108, 105, 115, 104, 32, 113]) ++ v6).length + [32].length) 4611686018427387904) (cond (Nat.ble ((((m1.text ++ [32, 112, 117, 98, 108, 105, 115, 104, 32, 113]) ++ v6) ++ [32]).length + e.Topic.length) 4611686018427387904) (cond (Nat.ble (((((m1.text ++ [32, 112, 117, 98, 108, 105, 115, 104, 32, 113]) ++ v6) ++ [32]) ++ e.Topic).length + [32].length) 4611686018427387904) ((Jn N (e.Payload.length : Int)).bind fun v12 =>
 cond (Nat.ble ((((((m1.text ++ [32, 112, 117, 98, 108, 105, 115, 104, 32, 113]) ++ v6) ++ [32]) ++ e.Topic) ++ [32]).length + v12.length) 4611686018427387904) (cond e.Retain
 (cond (Nat.ble (((((((m1.text ++ [32, 112, 117, 98, 108, 105, 115, 104, 32, 113]) ++ v6) ++ [32]) ++ e.Topic) ++ [32]) ++ v12).length + [32, 114, 101, 116, 97, 105, 110].length) 4611686018427387904) (some (((((((m1.text ++ [32, 112, 117, 98, 108, 105, 115, 104, 32, 113]) ++ v6) ++ [32]) ++ e.Topic) ++ [32]) ++ v12) ++ [32, 114, 101, 116, 97, 105, 110])) none)
 (some ((((((m1.text ++ [32, 112, 117, 98, 108, 105, 115, 104, 32, 113]) ++ v6) ++ [32]) ++ e.Topic) ++ [32]) ++ v12))) none) none) none) none) none) none))
 (cond (Q3 .neq e.Kind 1)
 (some [63, 32, 111, 116, 104, 101, 114])
 ((Jn N e.QoS).bind fun v18 =>
 cond (Nat.ble ([63, 32, 112, 117, 98, 108, 105, 115, 104, 32, 113].length + v18.length) 4611686018427387904) (cond (Nat.ble (([63, 32, 112, 117, 98, 108, 105, 115, 104, 32, 113] ++ v18).length + [32].length) 4611686018427387904) (cond (Nat.ble ((([63, 32, 112, 117, 98, 108, 105, 115, 104, 32, 113] ++ v18) ++ [32]).length + e.Topic.length) 4611686018427387904) (cond (Nat.ble (((([63, 32, 112, 117, 98, 108, 105, 115, 104, 32, 113] ++ v18) ++ [32]) ++ e.Topic).length + [32].length) 4611686018427387904) ((Jn N (e.Payload.length : Int)).bind fun v24 =>
 cond (Nat.ble ((((([63, 32, 112, 117, 98, 108, 105, 115, 104, 32, 113] ++ v18) ++ [32]) ++ e.Topic) ++ [32]).length + v24.length) 4611686018427387904) (cond e.Retain
 (cond (Nat.ble (((((([63, 32, 112, 117, 98, 108, 105, 115, 104, 32, 113] ++ v18) ++ [32]) ++ e.Topic) ++ [32]) ++ v24).length + [32, 114, 101, 116, 97, 105, 110].length) 4611686018427387904) (some (((((([63, 32, 112, 117, 98, 108, 105, 115, 104, 32, 113] ++ v18) ++ [32]) ++ e.Topic) ++ [32]) ++ v24) ++ [32, 114, 101, 116, 97, 105, 110])) none)
 (some ((((([63, 32, 112, 117, 98, 108, 105, 115, 104, 32, 113] ++ v18) ++ [32]) ++ e.Topic) ++ [32]) ++ v24))) none) none) none) none) none))
theorem Q8z {N} {e} {r} (h : Q4c N e = some r) : pU 10 [.agg (Qn.cells e)] (.str r) := by
 refine Q2 k10 ?_;unfold Q4c at h;rw [cX] at h;refine Qa ?_;refine Q11 Q78 .nil ?_;refine Qun h (fun m1 hm2 h => ?_) (fun hm2 h => ?_)
 ·apply iU h <;> intro h
  ·refine kU h fun h => ?_;cases h; exact (.p _)
  refine Qa ?_;refine kU h fun h => ?_;refine cD h Q13 p1 fun v6 h => ?_;refine kU h fun h => ?_;refine kU h fun h => ?_;refine kU h fun h => ?_;refine kU h fun h => ?_;refine cD h Q13 p1 fun v12 h => ?_;refine kU h fun h => ?_;refine iR h fun h => ?_;refine kU h fun h => ?_;cases h; exact (.p _)
 refine iL h fun h => ?_;refine Qa ?_;refine cD h Q13 p1 fun v18 h => ?_;refine kU h fun h => ?_;refine kU h fun h => ?_;refine kU h fun h => ?_;refine kU h fun h => ?_;refine cD h Q13 p1 fun v24 h => ?_;refine kU h fun h => ?_;refine iR h fun h => ?_;refine kU h fun h => ?_;cases h; exact (.p _)
def Zs (N : Nat) (l : List Qc) : Nat → Int → Option Bool
 | 0, _ => none
 | n + 1, i17 =>
  cond (Q3 .lss i17 ((Q8 Qc.cells l).length : Int))
  ((idx l i17).bind fun y19 =>
  cond (Q3 .gtr (y19.Text.length : Int) 300)
  (some false)
  ((idx l i17).bind fun y22 =>
  cond (Q3 .gtr (y22.Value.length : Int) 300)
  (some false)
  (Zs N l n (wrap .i64 (i17 + 1)))))
  (some (Q3 .leq ((Q8 Qc.cells l).length : Int) 30))
def Z7 (N : Nat) (l : List Qc) : Option Bool :=
 Zs N l N 0
theorem Xa {N} {l} {r} (h : Z7 N l = some r) : pU 27 [.slice 4 (Q8 Qc.cells l)] (.bool r) := by
 refine Q2 k27 ?_;unfold Z7 at h;refine lpH (τ := Int) (fun i17 => (.p (.slice 4 (Q8 Qc.cells l)) :: .any :: .any :: iI i17 :: a16 (a8 (.any :: [])) : List AV)) (fun n0 i17 => Zs N l n0 i17) (0) h fun n0 i17 h => ?_
 first | rw [Zs] at h | simp only [Zs] at h
 rw [cX] at h;refine iR h fun h => ?_;refine xR h fun y19 h => ?_;refine iL h fun h => ?_;refine xR h fun y22 h => ?_;refine iL h fun h => ?_;show Exists _;exact ⟨(n0, (wrap .i64 (i17 + 1))), h, Le _, (fun i => i), Z6⟩
def Zo (N : Nat) (p : Q9) : Nat → Int → Option Bool
 | 0, _ => none
 | n + 1, i11 =>
  cond (Q3 .lss i11 ((Q8 Qe.cells p.Filters).length : Int))
  (cond (Q3 .lss i11 31)
  ((idx p.Filters i11).bind fun y14 =>
  cond (Q3 .gtr (y14.Topic.length : Int) 2000)
  (some false)
  (Zo N p n (wrap .i64 (i11 + 1))))
  (cond (Q3 .leq (p.Topic.length : Int) 2000)
  (cond (Q3 .leq (p.Payload.length : Int) 2000)
  (cond (Q3 .leq (p.Client.length : Int) 2000)
  (cond (Q3 .leq (p.User.length : Int) 2000)
  (cond (Q3 .leq (p.Pass.length : Int) 2000)
  (cond (Q3 .leq (p.Will.Topic.length : Int) 2000)
  (cond (Q3 .leq (p.Will.Payload.length : Int) 2000)
  (cond (Q3 .leq ((Q8 (cI .i64) p.Codes).length : Int) 30)
  (cond (Q3 .leq ((Q8 Qe.cells p.Filters).length : Int) 30)
  ((Z7 N p.Props).bind fun v26 =>
  cond v26
  ((Z7 N p.Will.Props).bind fun v29 =>
  some v29)
  (some false))
  (some false))
  (some false))
  (some false))
  (some false))
  (some false))
  (some false))
  (some false))
  (some false))
  (some false)))
  (cond (Q3 .leq (p.Topic.length : Int) 2000)
  (cond (Q3 .leq (p.Payload.length : Int) 2000)
  (cond (Q3 .leq (p.Client.length : Int) 2000)
  (cond (Q3 .leq (p.User.length : Int) 2000)
  (cond (Q3 .leq (p.Pass.length : Int) 2000)
  (cond (Q3 .leq (p.Will.Topic.length : Int) 2000)
  (cond (Q3 .leq (p.Will.Payload.length : Int) 2000)
  (cond (Q3 .leq ((Q8 (cI .i64) p.Codes).length : Int) 30)
  (cond (Q3 .leq ((Q8 Qe.cells p.Filters).length : Int) 30)
  ((Z7 N p.Props).bind fun v40 =>
  cond v40
  ((Z7 N p.Will.Props).bind fun v43 =>
  some v43)
  (some false))
  (some false))
  (some false))
  (some false))
  (some false))
  (some false))
  (some false))
  (some false))
  (some false))
  (some false))
def Va (N : Nat) (p : Q9) : Option Bool :=
 Zo N p N 0
theorem Q4z {N} {p} {r} (h : Va N p = some r) : pU 28 [.agg (Q9.cells p)] (.bool r) := by
 refine Q2 k28 ?_;unfold Va at h;refine lpH (τ := Int) (fun i11 => (.any :: .ptr 0 0 :: .any :: iI i11 :: a16 (a16 (a16 (a16 (a16 (a4 ([])))))) : List AV)) (fun n0 i11 => Zo N p n0 i11) (0) h fun n0 i11 h => ?_
 first | rw [Zo] at h | simp only [Zo] at h
 rw [cX] at h;apply iU h <;> intro h
 ·apply iU h <;> intro h
  ·refine xR h fun y14 h => ?_;refine iL h fun h => ?_;show Exists _;exact ⟨(n0, (wrap .i64 (i11 + 1))), h, Le _, (fun i => i), Z6⟩
  refine iR h fun h => ?_;refine iR h fun h => ?_;refine iR h fun h => ?_;refine iR h fun h => ?_;refine iR h fun h => ?_;refine iR h fun h => ?_;refine iR h fun h => ?_;refine iR h fun h => ?_;refine iR h fun h => ?_;refine cP h Xa p1 fun v26 h => ?_;refine iR h fun h => ?_;refine cP h Xa p1 fun v29 h => ?_;cases h; exact (.p _)
 refine iR h fun h => ?_;refine iR h fun h => ?_;refine iR h fun h => ?_;refine iR h fun h => ?_;refine iR h fun h => ?_;refine iR h fun h => ?_;refine iR h fun h => ?_;refine iR h fun h => ?_;refine iR h fun h => ?_;refine cP h Xa p1 fun v40 h => ?_;refine iR h fun h => ?_;refine cP h Xa p1 fun v43 h => ?_;cases h; exact (.p _)
def Gu (_N : Nat) (m : Q1f) : Option Bool :=
 cond (Q3 .leq (m.Name.length : Int) 70000)
 (some (Q3 .leq (m.Data.length : Int) 70000))
 (some false)
theorem Q6p {N} {m} {r} (h : Gu N m = some r) : pU 61 [.agg (Q1f.cells m)] (.bool r) := by
 refine Q2 k61 ?_;unfold Gu at h;rw [cX] at h;exact iB h
def Zh (N : Nat) (d : W1) : Nat → Int → Option Bool
 | 0, _ => none
 | n + 1, i14 =>
  cond (Q3 .lss i14 ((Q8 Vi.cells d.Hops).length : Int))
  ((idx d.Hops i14).bind fun y16 =>
  cond (Q3 .gtr (y16.Node.length : Int) 300)
  (some false)
  (Zh N d n (wrap .i64 (i14 + 1))))
  (some true)
def Wc (N : Nat) (d : W1) : Option Bool :=
 cond (Q3 .gtr ((Q8 Vi.cells d.Hops).length : Int) 8)
 (some false)
 ((Gu N d.Msg).bind fun v2 =>
 cond (!v2)
 (some false)
 (Zh N d N 0))
theorem Q43 {N} {d} {r} (h : Wc N d = some r) : pU 29 [.agg (W1.cells d)] (.bool r) := by
 refine Q2 k29 ?_;unfold Wc at h;rw [cX] at h;refine iL h fun h => ?_;refine cP h Q6p (.cons (Frz.agg' (f8_ (f2_ (.cons (.p _) p5)))) .nil) fun v2 h => ?_;refine iL h fun h => ?_;refine lpH (τ := Int) (fun i14 => (.any :: .ptr 0 0 :: .any :: iI i14 :: a16 (a8 (.any :: [])) : List AV)) (fun n0 i14 => Zh N d n0 i14) (0) h fun n0 i14 h => ?_
 first | rw [Zh] at h | simp only [Zh] at h
 rw [cX] at h;refine iR h fun h => ?_;refine xR h fun y16 h => ?_;refine iL h fun h => ?_;show Exists _;exact ⟨(n0, (wrap .i64 (i14 + 1))), h, Le _, (fun i => i), Z6⟩
def Zv (ry1 : Q0 → Int → Int → Option Int) (N : Nat) (v : Q0) (deep : Int) (most : Int) : Nat → Int → Int → Option Int
 | 0, _, _ => none
 | n + 1, n18, i19 =>
  cond (Q3 .lss i19 ((Q0.rows v.Items).length : Int))
  (cond (Q3 .leq n18 most)
  ((idx v.Items i19).bind fun y22 =>
  (ry1 y22 (wrap .i64 (deep - 1)) (wrap .i64 (most - n18))).bind fun v24 =>
  Zv ry1 N v deep most n (wrap .i64 (n18 + v24)) (wrap .i64 (i19 + 1)))
  (some n18))
  (some n18)
def Uv (ry1 : Q0 → Int → Int → Option Int) (N : Nat) (v : Q0) (deep : Int) (most : Int) : Option Int :=
 cond (Q3 .lss deep 0)
 (some (wrap .i64 (most + 1)))
 (cond (Q3 .gtr ((Q0.rows v.Items).length : Int) most)
 (some (wrap .i64 (most + 1)))
 (cond (Q3 .gtr (v.Text.length : Int) 400)
 (some (wrap .i64 (most + 1)))
 (Zv ry1 N v deep most N 1 0)))
theorem Q86 {ry1 : Q0 → Int → Int → Option Int} (hw2 : ∀ {v} {deep} {most} {r}, ry1 v deep most = some r → pU 82 [.agg (Q0.cells v), .int .i64 deep, .int .i64 most] (.int .i64 r)) {N} {v} {deep} {most} {r} (h : Uv ry1 N v deep most = some r) : pU 82 [.agg (Q0.cells v), .int .i64 deep, .int .i64 most] (.int .i64 r) := by
 refine Q2 k82 ?_;unfold Uv at h;rw [cX] at h;refine iL h fun h => ?_;refine iL h fun h => ?_;refine iL h fun h => ?_;refine lpH (τ := Int × Int) (fun ⟨n18, i19⟩ => (.any :: iI deep :: iI most :: .ptr 0 0 :: a2 (.any :: iI n18 :: iI i19 :: a16 (a16 (a8 (a2 (.any :: []))))) : List AV)) (fun n0 ⟨n18, i19⟩ => Zv ry1 N v deep most n0 n18 i19) (1, 0) h fun n0 ⟨n18, i19⟩ h => ?_
 first | rw [Zv] at h | simp only [Zv] at h
 rw [cX] at h;refine iR h fun h => ?_;refine iR h fun h => ?_;refine Q0.xR h fun y22 h => ?_;refine cP h hw2 (.cons q4 p2) fun v24 h => ?_;show Exists _;exact ⟨(n0, (wrap .i64 (n18 + v24)), (wrap .i64 (i19 + 1))), h, Le _, (fun i => i), Z6⟩
def Zk : Nat → Q0 → Int → Int → Option Int
 | 0 => fun _ _ _ => none
 | N + 1 => Uv (Zk N) N
theorem Q88 {N} {v} {deep} {most} {r} (h : Zk N v deep most = some r) : pU 82 [.agg (Q0.cells v), .int .i64 deep, .int .i64 most] (.int .i64 r) := by
 induction N generalizing v deep most r with
 | zero => simp [Zk] at h
 | succ N ih => exact Q86 (fun h => ih h) h
def W6 (N : Nat) (v : Q0) : Option Bool :=
 (Zk N v 6 40).bind fun v1 =>
 some (Q3 .leq v1 40)
theorem Q59 {N} {v} {r} (h : W6 N v = some r) : pU 62 [.agg (Q0.cells v)] (.bool r) := by
 refine Q2 k62 ?_;unfold W6 at h;rw [cX] at h;refine cP h Q88 (.cons q4 p2) fun v1 h => ?_;cases h; exact (.p _)
def Z3 (N : Nat) (f : Yi) : Nat → Int → Option Bool
 | 0, _ => none
 | n + 1, i17 =>
  cond (Q3 .lss i17 ((Q0.rows f.Values).length : Int))
  ((idx f.Values i17).bind fun y19 =>
  (W6 N y19).bind fun v21 =>
  cond (!v21)
  (some false)
  (Z3 N f n (wrap .i64 (i17 + 1))))
  (some true)
def Zz (N : Nat) (f : Yi) : Option Bool :=
 cond (Q3 .gtr ((Q0.rows f.Values).length : Int) 6)
 (some false)
 (cond (Q3 .gtr (f.Ext.length : Int) 1100)
 (some false)
 (Z3 N f N 0))
theorem Q5t {N} {f} {r} (h : Zz N f = some r) : pU 30 [.agg (Yi.cells f)] (.bool r) := by
 refine Q2 k30 ?_;unfold Zz at h;rw [cX] at h;refine iL h fun h => ?_;refine iL h fun h => ?_;refine lpH (τ := Int) (fun i17 => (.any :: .ptr 0 0 :: .any :: iI i17 :: a16 (a8 ([])) : List AV)) (fun n0 i17 => Z3 N f n0 i17) (0) h fun n0 i17 h => ?_
 first | rw [Z3] at h | simp only [Z3] at h
 rw [cX] at h;refine iR h fun h => ?_;refine Q0.xR h fun y19 h => ?_;refine cP h Q59 (.cons q4 .nil) fun v21 h => ?_;refine iL h fun h => ?_;show Exists _;exact ⟨(n0, (wrap .i64 (i17 + 1))), h, Le _, (fun i => i), Z6⟩
def Vk (N : Nat) (e : Qn) : Option Bool :=
 cond (Q3 .leq (e.Topic.length : Int) 2000)
 (cond (Q3 .leq (e.Payload.length : Int) 2000)
 ((Z7 N e.Props).bind fun v3 =>
 cond v3
 ((Va N e.Packet).bind fun v6 =>
 cond v6
 ((Wc N (⟨e.Hops, e.Msg⟩ : W1)).bind fun v9 =>
 cond v9
 ((Zz N e.Frame).bind fun v12 =>
 some v12)
 (some false))
 (some false))
 (some false))
 (some false))
 (some false)
theorem Q58 {N} {e} {r} (h : Vk N e = some r) : pU 13 [.agg (Qn.cells e)] (.bool r) := by
 refine Q2 k13 ?_;unfold Vk at h;rw [cX] at h;refine iR h fun h => ?_;refine iR h fun h => ?_;refine cP h Xa p1 fun v3 h => ?_;refine iR h fun h => ?_;refine cP h Q4z (.cons (Frz.agg' (Yj (f2_ (f1_ (.cons (.p _) p5))))) .nil) fun v6 h => ?_;refine iR h fun h => ?_;refine cP h Q43 (.cons (Frz.agg' (f8_ (f2_ (f1_ (.cons (.p _) p5))))) .nil) fun v9 h => ?_;refine iR h fun h => ?_;refine cP h Q5t (.cons q4 .nil) fun v12 h => ?_;cases h; exact (.p _)
def Q04 (N : Nat) (e : Qn) : Option Bool :=
 (Vk N e).bind fun v1 =>
 some v1
theorem Q6s {N} {e} {r} (h : Q04 N e = some r) : pU 6 [.agg (Qn.cells e)] (.bool r) := by
 refine Q2 k6 ?_;unfold Q04 at h;refine cP h Q58 (.cons (Frz.agg' (Yj (Yj (Yj (f2_ (f1_ (.cons (.p _) p5))))))) .nil) fun v1 h => ?_;cases h; exact (.p _)
def Q5e (N : Nat) (p : Q9) : Option (Q9) :=
 (Q7g N p.Codes).bind fun v1 =>
 (Q3y N p.Filters).bind fun v3 =>
 (Q0h N p.Props).bind fun v5 =>
 (Q0h N p.Will.Props).bind fun v7 =>
 some (⟨p.Kind, p.Dup, p.Retain, p.QoS, p.ID, p.Topic, p.Payload, p.Clean, p.KeepAlive, p.Client, p.HasUser, p.User, p.HasPass, p.Pass, p.HasWill, (⟨p.Will.Topic, p.Will.Payload, p.Will.QoS, p.Will.Retain, v7⟩ : Q0y), p.Session, p.Code, v1, v3, v5⟩ : Q9)
theorem Qfi {N} {p} {r} (h : Q5e N p = some r) : gU 16 (.p (.agg (Q9.cells p)) :: []) [] (.agg (Qs5 r (.slice 4 0 0 r.Will.Props.length) (.slice 1 1 0 r.Codes.length) (.slice 5 2 0 r.Filters.length) (.slice 4 3 0 r.Props.length))) (.cells (Qu Qc.cells r.Will.Props) :: .cells (Qu (cI .i64) r.Codes) :: .cells (Qu Qe.cells r.Filters) :: .cells (Qu Qc.cells r.Props) :: []) := by
 refine X2 k16 (Lo rfl) ?_;unfold Q5e at h;refine Qa ?_;refine dcO h Qf8 [2] (fun v1 => .slice 1 2 0 v1.length) (rE rfl <| rN) fun v1 h => ?_;refine dcO h Qax [3] (fun v3 => .slice 5 3 0 v3.length) (rE rfl <| rN) fun v3 h => ?_;refine Qa ?_;refine dcO h Q4n [4] (fun v5 => .slice 4 4 0 v5.length) (rE rfl <| rN) fun v5 h => ?_;refine dcO h Q4n [5] (fun v7 => .slice 4 5 0 v7.length) (rE rfl <| rN) fun v7 h => ?_;obtain rfl := Qd h;show Exists _;exact ⟨(rho [5, 2, 3, 4]), ⟨(rG (rE rfl <| rE rfl <| rE rfl <| rE rfl <| rE rfl <| rE rfl <| rE rfl <| rE rfl <| rE rfl <| rE rfl <| rE rfl <| rE rfl <| rE rfl <| rE rfl <| rE rfl <| rE rfl <| rE rfl <| rE rfl <| rE rfl <| rE rfl <| rE rfl <| rE rfl <| rE rfl <| rE rfl <| rE rfl <| rN) <| rN), (hO rfl <| hO rfl <| hO rfl <| hO rfl <| hN), rfl, rfl, (roE (Wr _ _ _) <| roE (Wr _ _ _) <| roE (Wr _ _ _) <| roE (Wr _ _ _) <| roN)⟩⟩
def Wg (rv : Q0 → Option Q0) (N : Nat) (v : Q0) : Nat → Int → (List Q0) → Option Q0
 | 0, _, _ => none
 | n + 1, s14, l15 =>
  cond (Q3 .lss s14 ((Q0.rows v.Items).length : Int))
  ((idx v.Items s14).bind fun y17 =>
  (rv y17).bind fun v19 =>
  cond (Nat.ble ((l15.length + 1 + 4096) * 56) 17592186044416) (Wg rv N v n (wrap .i64 (s14 + 1)) (l15 ++ [v19])) none)
  (some (⟨v.Kind, v.N', v.Text, l15⟩ : Q0))
def Q5a (rv : Q0 → Option Q0) (N : Nat) (v : Q0) : Option Q0 :=
 Wg rv N v N 0 []
theorem Qcl {rv : Q0 → Option Q0} (hy2 : ∀ {v} {r}, rv v = some r → pU 17 [.agg (Q0.cells v)] (.agg (Q0.cells r))) {N} {v} {r} (h : Q5a rv N v = some r) : pU 17 [.agg (Q0.cells v)] (.agg (Q0.cells r)) := by
 refine Q2 k17 ?_;unfold Q5a at h;refine lpA (τ := Int × (List Q0)) (fun ⟨s14, _⟩ => (.any :: .any :: .ptr 1 0 :: .ptr 2 0 :: a8 (a2 (.p (.slice 4 (Q0.rows v.Items)) :: iI ((Q0.rows v.Items).length : Int) :: iI s14 :: a8 (a4 ([])))) : List AV)) (fun ⟨_, l15⟩ => (.cells (iI v.Kind :: iW v.N' :: iS v.Text :: .p (.slice 4 (Q0.rows v.Items)) :: []) :: .cells (iI 0 :: iW 0 :: iS [] :: .p .nilSlice :: []) :: .cells (iI v.Kind :: iW v.N' :: iS v.Text :: .slice 4 3 0 l15.length :: []) :: .cells (Qu Q0.cells l15) :: [] : List AObj)) (fun n0 ⟨s14, l15⟩ => Wg rv N v n0 s14 l15) (0, []) h fun n0 ⟨s14, l15⟩ h => ?_
 first | rw [Wg] at h | simp only [Wg] at h
 rw [cX] at h;apply iU h <;> intro h
 ·refine Q0.xR h fun y17 h => ?_;refine Qa ?_;refine cD h hy2 (.cons q4 .nil) fun v19 h => ?_;obtain ⟨hk21, h⟩ := Q4u h;refine Js (Xe (c := Q0.cells) (e := 4) (fun _ => rfl) sd hk21) ?_;refine Uy (c := Q0.cells) [v19] rfl ?_;show Exists _;exact ⟨(n0, (wrap .i64 (s14 + 1)), (l15 ++ [v19])), h, Le _, (rho [0, 1, 2, 6]), Z6⟩
 obtain rfl := Qd h; exact (Frz.agg' (f2_ (f1_ (.cons (Q0.frz_own (l := l15) rfl trivial sd) .nil))))
def Us : Nat → Q0 → Option Q0
 | 0 => fun _ => none
 | N + 1 => Q5a (Us N) N
theorem Qbn {N} {v} {r} (h : Us N v = some r) : pU 17 [.agg (Q0.cells v)] (.agg (Q0.cells r)) := by
 induction N generalizing v r with
 | zero => simp [Us] at h
 | succ N ih => exact Qcl (fun h => ih h) h
def Vf (N : Nat) (e : Qn) (v1 : List Qc) (v3 : List Vi) (v5 : Q9) : Nat → Int → (List Q0) → Option Qn
 | 0, _, _ => none
 | n + 1, s20, l21 =>
  cond (Q3 .lss s20 ((Q0.rows e.Frame.Values).length : Int))
  ((idx e.Frame.Values s20).bind fun y23 =>
  (Us N y23).bind fun v25 =>
  cond (Nat.ble ((l21.length + 1 + 4096) * 56) 17592186044416) (Vf N e v1 v3 v5 n (wrap .i64 (s20 + 1)) (l21 ++ [v25])) none)
  (some (⟨e.Proto, e.Kind, e.Topic, e.Payload, e.QoS, e.Retain, e.Dup, e.ID, v1, e.Type', v3, e.Channel, v5, e.Msg, (⟨e.Frame.Type', e.Frame.Channel, e.Frame.Ext, l21⟩ : Yi)⟩ : Qn))
def Q4h (N : Nat) (e : Qn) : Option Qn :=
 (Q0h N e.Props).bind fun v1 =>
 (Q5g N e.Hops).bind fun v3 =>
 (Q5e N e.Packet).bind fun v5 =>
 Vf N e v1 v3 v5 N 0 []
theorem Q7y {N} {e} {r} (h : Q4h N e = some r) : gU 7 (.p (.agg (Qn.cells e)) :: []) [] (.agg (Qvs r (.slice 4 0 0 r.Props.length) (.slice 2 1 0 r.Hops.length) (.slice 4 2 0 r.Packet.Will.Props.length) (.slice 1 3 0 r.Packet.Codes.length) (.slice 5 4 0 r.Packet.Filters.length) (.slice 4 5 0 r.Packet.Props.length) (.slice 4 6 0 r.Frame.Values.length))) (.cells (Qu Qc.cells r.Props) :: .cells (Qu Vi.cells r.Hops) :: .cells (Qu Qc.cells r.Packet.Will.Props) :: .cells (Qu (cI .i64) r.Packet.Codes) :: .cells (Qu Qe.cells r.Packet.Filters) :: .cells (Qu Qc.cells r.Packet.Props) :: .cells (Qu Q0.cells r.Frame.Values) :: []) := by
 refine X2 k7 (Lo rfl) ?_;unfold Q4h at h;refine cO h Q4n (fun v1 => .slice 4 3 0 v1.length) (rE rfl <| rN) fun v1 h => ?_;refine cO h Qgd (fun v3 => .slice 2 4 0 v3.length) (rE rfl <| rN) fun v3 h => ?_;refine cO h Qfi (fun v5 => .agg (Qs6 v5 (.slice 4 5 0 v5.Will.Props.length) (.slice 1 6 0 v5.Codes.length) (.slice 5 7 0 v5.Filters.length) (.slice 4 8 0 v5.Props.length))) (rF (Frz.agg' (Yj (f2_ (f1_ (.cons (.p _) p5))))) <| rN) fun v5 h => ?_;refine lpA (τ := Int × (List Q0)) (fun ⟨s20, _⟩ => (.any :: .any :: .ptr 1 0 :: .ptr 2 0 :: a16 (a2 (.any :: .p (.slice 4 (Q0.rows e.Frame.Values)) :: iI ((Q0.rows e.Frame.Values).length : Int) :: iI s20 :: a8 (a4 (a2 ([]))))) : List AV)) (fun ⟨_, l21⟩ => (.cells (Q7n e ([])) :: .cells (iI 0 :: iI 0 :: iS [] :: iS [] :: iI 0 :: .p (.bool false) :: .p (.bool false) :: iI 0 :: .p .nilSlice :: iI 0 :: .p .nilSlice :: iI 0 :: iI 0 :: .p (.bool false) :: .p (.bool false) :: iI 0 :: iI 0 :: iS [] :: iS [] :: .p (.bool false) :: iI 0 :: iS [] :: .p (.bool false) :: iS [] :: .p (.bool false) :: iS [] :: .p (.bool false) :: iS [] :: iS [] :: iI 0 :: .p (.bool false) :: .p .nilSlice :: .p (.bool false) :: iI 0 :: .p .nilSlice :: .p .nilSlice :: .p .nilSlice :: iI 0 :: .p (.bool false) :: iI 0 :: .p (.bool false) :: .p (.bool false) :: .p (.bool false) :: iI 0 :: iI 0 :: iI 0 :: iI 0 :: .p (.bool false) :: iI 0 :: iI 0 :: iI 0 :: iS [] :: iS [] :: iI 0 :: iI 0 :: iS [] :: .p .nilSlice :: []) :: .cells (iI e.Proto :: iI e.Kind :: iS e.Topic :: iS e.Payload :: iI e.QoS :: .p (.bool e.Retain) :: .p (.bool e.Dup) :: iI e.ID :: .slice 4 3 0 v1.length :: iI e.Type' :: .slice 2 4 0 v3.length :: iI e.Channel :: Qt0 v5 (.slice 4 5 0 v5.Will.Props.length) (.slice 1 6 0 v5.Codes.length) (.slice 5 7 0 v5.Filters.length) (.slice 4 8 0 v5.Props.length) (Qhu e.Msg (iI e.Frame.Type' :: iI e.Frame.Channel :: iS e.Frame.Ext :: .slice 4 9 0 l21.length :: []))) :: .cells (Qu Qc.cells v1) :: .cells (Qu Vi.cells v3) :: .cells (Qu Qc.cells v5.Will.Props) :: .cells (Qu (cI .i64) v5.Codes) :: .cells (Qu Qe.cells v5.Filters) :: .cells (Qu Qc.cells v5.Props) :: .cells (Qu Q0.cells l21) :: [] : List AObj)) (fun n0 ⟨s20, l21⟩ => Vf N e v1 v3 v5 n0 s20 l21) (0, []) h fun n0 ⟨s20, l21⟩ h => ?_
 first | rw [Vf] at h | simp only [Vf] at h
 rw [cX] at h;apply iU h <;> intro h
 ·refine Q0.xR h fun y23 h => ?_;refine Qa ?_;refine cD h Qbn (.cons q4 .nil) fun v25 h => ?_;obtain ⟨hk27, h⟩ := Q4u h;refine Js (Xe (c := Q0.cells) (e := 4) (fun _ => rfl) sd hk27) ?_;refine Uy (c := Q0.cells) [v25] rfl ?_;show Exists _;exact ⟨(n0, (wrap .i64 (s20 + 1)), (l21 ++ [v25])), h, Le _, (rho [0, 1, 2, 3, 4, 5, 6, 7, 8, 12]), Z6⟩
 obtain rfl := Qd h;show Exists _;exact ⟨(rho [3, 4, 5, 6, 7, 8, 9]), ⟨(rG (rE rfl <| rE rfl <| rE rfl <| rE rfl <| rE rfl <| rE rfl <| rE rfl <| rE rfl <| rE rfl <| rE rfl <| rE rfl <| rE rfl <| rE rfl <| rE rfl <| rE rfl <| rE rfl <| rE rfl <| rE rfl <| rE rfl <| rE rfl <| rE rfl <| rE rfl <| rE rfl <| rE rfl <| rE rfl <| rE rfl <| rE rfl <| rE rfl <| rE rfl <| rE rfl <| rE rfl <| rE rfl <| rE rfl <| rE rfl <| rE rfl <| rE rfl <| rE rfl <| rE rfl <| rE rfl <| rE rfl <| rE rfl <| rE rfl <| rE rfl <| rE rfl <| rE rfl <| rE rfl <| rE rfl <| rE rfl <| rE rfl <| rE rfl <| rE rfl <| rE rfl <| rE rfl <| rE rfl <| rE rfl <| rE rfl <| rE rfl <| rN) <| rN), (hO rfl <| hO rfl <| hO rfl <| hO rfl <| hO rfl <| hO rfl <| hO rfl <| hN), rfl, rfl, (roE (Wr _ _ _) <| roE (Wr _ _ _) <| roE (Wr _ _ _) <| roE (Wr _ _ _) <| roE (Wr _ _ _) <| roE (Wr _ _ _) <| roE (Wr _ _ _) <| roN)⟩⟩
def Gp (N : Nat) (a : List Qc) (b : List Qc) : Nat → Int → Option Bool
 | 0, _ => none
 | n + 1, s15 =>
  cond (Q3 .lss s15 ((Q8 Qc.cells a).length : Int))
  ((idx a s15).bind fun y17 =>
  (idx b s15).bind fun y19 =>
  cond (!(((y17.ID : Int) == y19.ID) && (((y17.N' : Int) == y19.N') && (((y17.Text : List UInt8) == y19.Text) && (((y17.Value : List UInt8) == y19.Value) && true)))))
  (some false)
  (Gp N a b n (wrap .i64 (s15 + 1))))
  (some true)
def Q5k (N : Nat) (a : List Qc) (b : List Qc) : Option Bool :=
 cond (Q3 .neq ((Q8 Qc.cells a).length : Int) ((Q8 Qc.cells b).length : Int))
 (some false)
 (Gp N a b N 0)
theorem Qh3 {N} {a} {b} {r} (h : Q5k N a b = some r) : pU 18 [.slice 4 (Q8 Qc.cells a), .slice 4 (Q8 Qc.cells b)] (.bool r) := by
 refine Q2 k18 ?_;unfold Q5k at h;rw [cX] at h;refine iL h fun h => ?_;refine lpH (τ := Int) (fun s15 => (.p (.slice 4 (Q8 Qc.cells a)) :: .p (.slice 4 (Q8 Qc.cells b)) :: a8 (a2 (iI ((Q8 Qc.cells a).length : Int) :: iI s15 :: a8 (a4 ([])))) : List AV)) (fun n0 s15 => Gp N a b n0 s15) (0) h fun n0 s15 h => ?_
 first | rw [Gp] at h | simp only [Gp] at h
 rw [cX] at h;refine iR h fun h => ?_;refine Qa ?_;refine xR h fun y17 h => ?_;refine xR h fun y19 h => ?_;refine iL h fun h => ?_;show Exists _;exact ⟨(n0, (wrap .i64 (s15 + 1))), h, Le _, (fun i => i), Z6⟩
def Zj (N : Nat) (s1_0 : List Vi) (s2_1 : List Vi) : Nat → Int → Option Bool
 | 0, _ => none
 | n + 1, s15 =>
  cond (Q3 .lss s15 ((Q8 Vi.cells s1_0).length : Int))
  ((idx s1_0 s15).bind fun y17 =>
  (idx s2_1 s15).bind fun y19 =>
  cond (!(((y17.Radius : Int) == y19.Radius) && (((y17.Node : List UInt8) == y19.Node) && true)))
  (some false)
  (Zj N s1_0 s2_1 n (wrap .i64 (s15 + 1))))
  (some true)
def Ye (N : Nat) (s1_0 : List Vi) (s2_1 : List Vi) : Option Bool :=
 cond (Q3 .neq ((Q8 Vi.cells s1_0).length : Int) ((Q8 Vi.cells s2_1).length : Int))
 (some false)
 (Zj N s1_0 s2_1 N 0)
theorem Q35 {N} {s1_0} {s2_1} {r} (h : Ye N s1_0 s2_1 = some r) : pU 19 [.slice 2 (Q8 Vi.cells s1_0), .slice 2 (Q8 Vi.cells s2_1)] (.bool r) := by
 refine Q2 k19 ?_;unfold Ye at h;rw [cX] at h;refine iL h fun h => ?_;refine lpH (τ := Int) (fun s15 => (.p (.slice 2 (Q8 Vi.cells s1_0)) :: .p (.slice 2 (Q8 Vi.cells s2_1)) :: a8 (a2 (iI ((Q8 Vi.cells s1_0).length : Int) :: iI s15 :: a8 (a4 ([])))) : List AV)) (fun n0 s15 => Zj N s1_0 s2_1 n0 s15) (0) h fun n0 s15 h => ?_
 first | rw [Zj] at h | simp only [Zj] at h
 rw [cX] at h;refine iR h fun h => ?_;refine Qa ?_;refine xR h fun y17 h => ?_;refine xR h fun y19 h => ?_;refine iL h fun h => ?_;show Exists _;exact ⟨(n0, (wrap .i64 (s15 + 1))), h, Le _, (fun i => i), Z6⟩
def Q64 (_N : Nat) (p : Q9) : Option (Q6r) :=
 some (⟨p.Kind, p.QoS, p.ID, p.KeepAlive, p.Code, p.Dup, p.Retain, p.Clean, p.HasUser, p.HasPass, p.HasWill, p.Session, p.Topic, p.Payload, p.Client, p.User, p.Pass⟩ : Q6r)
theorem Q8v {N} {p} {r} (h : Q64 N p = some r) : pU 33 [.agg (Q9.cells p)] (.agg (Q6r.cells r)) := by
 refine Q2 k33 ?_;unfold Q64 at h;obtain rfl := Qd h; exact (Frz.agg' (f8_ (f2_ (f1_ (.cons (.p _) p5)))))
def Q0l (_N : Nat) (a : Qc) (b : Qc) : Option Bool :=
 some (((a.ID : Int) == b.ID) && (((a.N' : Int) == b.N') && (((a.Text : List UInt8) == b.Text) && (((a.Value : List UInt8) == b.Value) && true))))
theorem Q74 {N} {a} {b} {r} (h : Q0l N a b = some r) : pU 68 [.agg (Qc.cells a), .agg (Qc.cells b)] (.bool r) := by
 refine Q2 k68 ?_;unfold Q0l at h;cases h; exact (.p _)
def Xh (N : Nat) (a : List Qc) (b : List Qc) : Nat → Int → Option Bool
 | 0, _ => none
 | n + 1, s19 =>
  cond (Q3 .lss s19 ((Q8 Qc.cells a).length : Int))
  ((idx a s19).bind fun y21 =>
  (idx b s19).bind fun y23 =>
  (Q0l N y21 y23).bind fun v25 =>
  cond (!v25)
  (some false)
  (Xh N a b n (wrap .i64 (s19 + 1))))
  (some true)
def Wj (N : Nat) (a : List Qc) (b : List Qc) : Option Bool :=
 cond (Q3 .neq ((Q8 Qc.cells a).length : Int) ((Q8 Qc.cells b).length : Int))
 (some false)
 (Xh N a b N 0)
theorem Q2r {N} {a} {b} {r} (h : Wj N a b = some r) : pU 37 [.slice 4 (Q8 Qc.cells a), .slice 4 (Q8 Qc.cells b)] (.bool r) := by
 refine Q2 k37 ?_;unfold Wj at h;rw [cX] at h;refine Qi k67 ?_;refine iL h fun h => ?_;refine lpH (τ := Int) (fun s19 => (.any :: .p (.slice 4 (Q8 Qc.cells b)) :: .p (.func (.func 68) [] []) :: a8 (a4 (.p (.slice 4 (Q8 Qc.cells a)) :: iI ((Q8 Qc.cells a).length : Int) :: iI s19 :: a8 (a4 (a2 ([]))))) : List AV)) (fun n0 s19 => Xh N a b n0 s19) (0) h fun n0 s19 h => ?_
 first | rw [Xh] at h | simp only [Xh] at h
 rw [cX] at h;refine iR h fun h => ?_;refine xR h fun y21 h => ?_;refine xR h fun y23 h => ?_;refine cP h Q74 (.cons q4 (.cons q4 .nil)) fun v25 h => ?_;refine iL h fun h => ?_;show Exists _;exact ⟨(n0, (wrap .i64 (s19 + 1))), h, Le _, (fun i => i), Z6⟩
def Q0e (N : Nat) (a : Q0y) (b : Q0y) : Option Bool :=
 cond (Q4s .eql a.Topic b.Topic)
 (cond (Q4s .eql a.Payload b.Payload)
 (cond (Q3 .eql a.QoS b.QoS)
 (cond (a.Retain == b.Retain)
 ((Wj N a.Props b.Props).bind fun v5 =>
 some v5)
 (some false))
 (some false))
 (some false))
 (some false)
theorem Qbs {N} {a} {b} {r} (h : Q0e N a b = some r) : pU 34 [.agg (Q0y.cells a), .agg (Q0y.cells b)] (.bool r) := by
 refine Q2 k34 ?_;unfold Q0e at h;rw [cX, cY] at h;refine iR h fun h => ?_;refine iR h fun h => ?_;refine iR h fun h => ?_;refine iR h fun h => ?_;refine cP h Q2r p2 fun v5 h => ?_;cases h; exact (.p _)
def Q4l (_N : Nat) (a : Int) (b : Int) : Option Bool :=
 some (Q3 .eql a b)
theorem Qa6 {N} {a} {b} {r} (h : Q4l N a b = some r) : pU 64 [.int .i64 a, .int .i64 b] (.bool r) := by
 refine Q2 k64 ?_;unfold Q4l at h;rw [cX] at h;cases h; exact (.p _)
def Vm (N : Nat) (a : List Int) (b : List Int) : Nat → Int → Option Bool
 | 0, _ => none
 | n + 1, s19 =>
  cond (Q3 .lss s19 ((Q8 (cI .i64) a).length : Int))
  ((idx a s19).bind fun y21 =>
  (idx b s19).bind fun y23 =>
  (Q4l N y21 y23).bind fun v25 =>
  cond (!v25)
  (some false)
  (Vm N a b n (wrap .i64 (s19 + 1))))
  (some true)
def Q06 (N : Nat) (a : List Int) (b : List Int) : Option Bool :=
 cond (Q3 .neq ((Q8 (cI .i64) a).length : Int) ((Q8 (cI .i64) b).length : Int))
 (some false)
 (Vm N a b N 0)
theorem Qb7 {N} {a} {b} {r} (h : Q06 N a b = some r) : pU 35 [.slice 1 (Q8 (cI .i64) a), .slice 1 (Q8 (cI .i64) b)] (.bool r) := by
 refine Q2 k35 ?_;unfold Q06 at h;rw [cX] at h;refine Qi k63 ?_;refine iL h fun h => ?_;refine lpH (τ := Int) (fun s19 => (.any :: .p (.slice 1 (Q8 (cI .i64) b)) :: .p (.func (.func 64) [] []) :: a8 (a4 (.p (.slice 1 (Q8 (cI .i64) a)) :: .p (.int .i64 ((Q8 (cI .i64) a).length : Int)) :: iI s19 :: a8 (a4 (a2 ([]))))) : List AV)) (fun n0 s19 => Vm N a b n0 s19) (0) h fun n0 s19 h => ?_
 first | rw [Vm] at h | simp only [Vm] at h
 rw [cX] at h;refine iR h fun h => ?_;refine xR h fun y21 h => ?_;refine xR h fun y23 h => ?_;refine cP h Qa6 p2 fun v25 h => ?_;refine iL h fun h => ?_;show Exists _;exact ⟨(n0, (wrap .i64 (s19 + 1))), h, Le _, (fun i => i), Z6⟩
def Gc (_N : Nat) (a : Qe) (b : Qe) : Option Bool :=
 some (((a.Topic : List UInt8) == b.Topic) && (((a.QoS : Int) == b.QoS) && (((a.NoLocal : Bool) == b.NoLocal) && (((a.AsPublished : Bool) == b.AsPublished) && (((a.Handling : Int) == b.Handling) && true)))))
theorem Q5x {N} {a} {b} {r} (h : Gc N a b = some r) : pU 66 [.agg (Qe.cells a), .agg (Qe.cells b)] (.bool r) := by
 refine Q2 k66 ?_;unfold Gc at h;cases h; exact (.p _)
def Yn (N : Nat) (a : List Qe) (b : List Qe) : Nat → Int → Option Bool
 | 0, _ => none
 | n + 1, s19 =>
  cond (Q3 .lss s19 ((Q8 Qe.cells a).length : Int))
  ((idx a s19).bind fun y21 =>
  (idx b s19).bind fun y23 =>
  (Gc N y21 y23).bind fun v25 =>
  cond (!v25)
  (some false)
  (Yn N a b n (wrap .i64 (s19 + 1))))
  (some true)
def Wt (N : Nat) (a : List Qe) (b : List Qe) : Option Bool :=
 cond (Q3 .neq ((Q8 Qe.cells a).length : Int) ((Q8 Qe.cells b).length : Int))
 (some false)
 (Yn N a b N 0)
theorem Q6k {N} {a} {b} {r} (h : Wt N a b = some r) : pU 36 [.slice 5 (Q8 Qe.cells a), .slice 5 (Q8 Qe.cells b)] (.bool r) := by
 refine Q2 k36 ?_;unfold Wt at h;rw [cX] at h;refine Qi k65 ?_;refine iL h fun h => ?_;refine lpH (τ := Int) (fun s19 => (.any :: .p (.slice 5 (Q8 Qe.cells b)) :: .p (.func (.func 66) [] []) :: a8 (a4 (.p (.slice 5 (Q8 Qe.cells a)) :: iI ((Q8 Qe.cells a).length : Int) :: iI s19 :: a8 (a4 (a2 ([]))))) : List AV)) (fun n0 s19 => Yn N a b n0 s19) (0) h fun n0 s19 h => ?_
 first | rw [Yn] at h | simp only [Yn] at h
 rw [cX] at h;refine iR h fun h => ?_;refine xR h fun y21 h => ?_;refine xR h fun y23 h => ?_;refine cP h Q5x (.cons (Frz.agg' p5) (.cons (Frz.agg' p5) .nil)) fun v25 h => ?_;refine iL h fun h => ?_;show Exists _;exact ⟨(n0, (wrap .i64 (s19 + 1))), h, Le _, (fun i => i), Z6⟩
def Za (N : Nat) (a : Q9) (b : Q9) : Option Bool :=
 (Q64 N a).bind fun v1 =>
 (Q64 N b).bind fun v3 =>
 cond (((v1.kind : Int) == v3.kind) && (((v1.qos : Int) == v3.qos) && (((v1.id : Int) == v3.id) && (((v1.alive : Int) == v3.alive) && (((v1.code : Int) == v3.code) && (((v1.dup : Bool) == v3.dup) && (((v1.retain : Bool) == v3.retain) && (((v1.clean : Bool) == v3.clean) && (((v1.user : Bool) == v3.user) && (((v1.pass : Bool) == v3.pass) && (((v1.will : Bool) == v3.will) && (((v1.again : Bool) == v3.again) && (((v1.topic : List UInt8) == v3.topic) && (((v1.payload : List UInt8) == v3.payload) && (((v1.client : List UInt8) == v3.client) && (((v1.name : List UInt8) == v3.name) && (((v1.word : List UInt8) == v3.word) && true)))))))))))))))))
 ((Q0e N a.Will b.Will).bind fun v6 =>
 cond v6
 ((Q06 N a.Codes b.Codes).bind fun v9 =>
 cond v9
 ((Wt N a.Filters b.Filters).bind fun v12 =>
 cond v12
 ((Wj N a.Props b.Props).bind fun v15 =>
 some v15)
 (some false))
 (some false))
 (some false))
 (some false)
theorem Qv {N} {a} {b} {r} (h : Za N a b = some r) : pU 20 [.agg (Q9.cells a), .agg (Q9.cells b)] (.bool r) := by
 refine Q2 k20 ?_;unfold Za at h;refine Qa ?_;obtain ⟨v1, hv2, h⟩ := U1 h;refine Q11 (Q8v hv2) (.cons (Frz.agg' (Yj (f8_ (.cons (.p _) .nil)))) .nil) ?_;obtain ⟨v3, hv4, h⟩ := U1 h;refine Q11 (Q8v hv4) (.cons (Frz.agg' (Yj (f8_ (.cons (.p _) .nil)))) .nil) ?_;refine Qtg (ks := [0, 0, 0, 0, 0, 2, 2, 2, 2, 2, 2, 2, 1, 1, 1, 1, 1]) (xs := [.p (.int .i64 v1.kind), .p (.int .i64 v1.qos), .p (.int .i64 v1.id), .p (.int .i64 v1.alive), .p (.int .i64 v1.code), .p (.bool v1.dup), .p (.bool v1.retain), .p (.bool v1.clean), .p (.bool v1.user), .p (.bool v1.pass), .p (.bool v1.will), .p (.bool v1.again), .p (.str v1.topic), .p (.str v1.payload), .p (.str v1.client), .p (.str v1.name), .p (.str v1.word)]) (ys := [.p (.int .i64 v3.kind), .p (.int .i64 v3.qos), .p (.int .i64 v3.id), .p (.int .i64 v3.alive), .p (.int .i64 v3.code), .p (.bool v3.dup), .p (.bool v3.retain), .p (.bool v3.clean), .p (.bool v3.user), .p (.bool v3.pass), .p (.bool v3.will), .p (.bool v3.again), .p (.str v3.topic), .p (.str v3.payload), .p (.str v3.client), .p (.str v3.name), .p (.str v3.word)]) (b := (((v1.kind : Int) == v3.kind) && (((v1.qos : Int) == v3.qos) && (((v1.id : Int) == v3.id) && (((v1.alive : Int) == v3.alive) && (((v1.code : Int) == v3.code) && (((v1.dup : Bool) == v3.dup) && (((v1.retain : Bool) == v3.retain) && (((v1.clean : Bool) == v3.clean) && (((v1.user : Bool) == v3.user) && (((v1.pass : Bool) == v3.pass) && (((v1.will : Bool) == v3.will) && (((v1.again : Bool) == v3.again) && (((v1.topic : List UInt8) == v3.topic) && (((v1.payload : List UInt8) == v3.payload) && (((v1.client : List UInt8) == v3.client) && (((v1.name : List UInt8) == v3.name) && (((v1.word : List UInt8) == v3.word) && true)))))))))))))))))) rfl ?_;refine ifO h (fun hc5 h => ?_) (fun hc5 h => ?_)
 ·obtain ⟨v6, hv7, h⟩ := U1 h;refine Q11 (Qbs hv7) (.cons (Frz.agg' (f4_ (.cons (.p _) .nil))) (.cons (Frz.agg' (f4_ (.cons (.p _) .nil))) .nil)) ?_;refine ifO h (fun hc8 h => ?_) (fun hc8 h => ?_)
  ·obtain ⟨v9, hv10, h⟩ := U1 h;refine Q11 (Qb7 hv10) (.cons (.p _) (.cons (.p _) .nil)) ?_;refine ifO h (fun hc11 h => ?_) (fun hc11 h => ?_)
   ·obtain ⟨v12, hv13, h⟩ := U1 h;refine Q11 (Q6k hv13) (.cons (.p _) (.cons (.p _) .nil)) ?_;refine ifO h (fun hc14 h => ?_) (fun hc14 h => ?_)
    ·obtain ⟨v15, hv16, h⟩ := U1 h;refine Q11 (Q2r hv16) (.cons (.p _) (.cons (.p _) .nil)) ?_;have hr := Qd h;subst hr;exact (.p _)
    have hr := Qd h;subst hr;exact (.p _)
   have hr := Qd h;subst hr;exact (.p _)
  have hr := Qd h;subst hr;exact (.p _)
 have hr := Qd h;subst hr;exact (.p _)
def We (rz1 : Q0 → Q0 → Option Bool) (N : Nat) (a : Q0) (b : Q0) : Nat → Int → Option Bool
 | 0, _ => none
 | n + 1, s22 =>
  cond (Q3 .lss s22 ((Q0.rows a.Items).length : Int))
  ((idx a.Items s22).bind fun y24 =>
  (idx b.Items s22).bind fun y26 =>
  (rz1 y24 y26).bind fun v28 =>
  cond (!v28)
  (some false)
  (We rz1 N a b n (wrap .i64 (s22 + 1))))
  (some true)
def Q2n (rz1 : Q0 → Q0 → Option Bool) (N : Nat) (a : Q0) (b : Q0) : Option Bool :=
 cond (Q3 .neq a.Kind b.Kind)
 (some false)
 (cond (Q3 .neq a.N' b.N')
 (some false)
 (cond (Q4s .neq a.Text b.Text)
 (some false)
 (cond (Q3 .neq ((Q0.rows a.Items).length : Int) ((Q0.rows b.Items).length : Int))
 (some false)
 (We rz1 N a b N 0))))
theorem Qbt {rz1 : Q0 → Q0 → Option Bool} (hx2 : ∀ {a} {b} {r}, rz1 a b = some r → pU 38 [.agg (Q0.cells a), .agg (Q0.cells b)] (.bool r)) {N} {a} {b} {r} (h : Q2n rz1 N a b = some r) : pU 38 [.agg (Q0.cells a), .agg (Q0.cells b)] (.bool r) := by
 refine Q2 k38 ?_;unfold Q2n at h;rw [cX, cY] at h;refine iL h fun h => ?_;refine iL h fun h => ?_;refine iL h fun h => ?_;refine iL h fun h => ?_;refine lpH (τ := Int) (fun s22 => (.any :: .any :: .ptr 0 0 :: .ptr 1 0 :: a16 (a16 (iI ((Q0.rows a.Items).length : Int) :: iI s22 :: a8 (a4 (a2 (.any :: []))))) : List AV)) (fun n0 s22 => We rz1 N a b n0 s22) (0) h fun n0 s22 h => ?_
 first | rw [We] at h | simp only [We] at h
 rw [cX] at h;refine iR h fun h => ?_;refine Qa ?_;refine Q0.xR h fun y24 h => ?_;refine Q0.xR h fun y26 h => ?_;refine cD h hx2 (.cons q4 (.cons q4 .nil)) fun v28 h => ?_;refine iL h fun h => ?_;show Exists _;exact ⟨(n0, (wrap .i64 (s22 + 1))), h, Le _, (fun i => i), Z6⟩
def Uh : Nat → Q0 → Q0 → Option Bool
 | 0 => fun _ _ => none
 | N + 1 => Q2n (Uh N) N
theorem Qbq {N} {a} {b} {r} (h : Uh N a b = some r) : pU 38 [.agg (Q0.cells a), .agg (Q0.cells b)] (.bool r) := by
 induction N generalizing a b r with
 | zero => simp [Uh] at h
 | succ N ih => exact Qbt (fun h => ih h) h
def Yv (N : Nat) (a : Yi) (b : Yi) : Nat → Int → Option Bool
 | 0, _ => none
 | n + 1, s22 =>
  cond (Q3 .lss s22 ((Q0.rows a.Values).length : Int))
  ((idx a.Values s22).bind fun y24 =>
  (idx b.Values s22).bind fun y26 =>
  (Uh N y24 y26).bind fun v28 =>
  cond (!v28)
  (some false)
  (Yv N a b n (wrap .i64 (s22 + 1))))
  (some true)
def Xq (N : Nat) (a : Yi) (b : Yi) : Option Bool :=
 cond (Q3 .neq a.Type' b.Type')
 (some false)
 (cond (Q3 .neq a.Channel b.Channel)
 (some false)
 (cond (Q4s .neq a.Ext b.Ext)
 (some false)
 (cond (Q3 .neq ((Q0.rows a.Values).length : Int) ((Q0.rows b.Values).length : Int))
 (some false)
 (Yv N a b N 0))))
theorem Q2j {N} {a} {b} {r} (h : Xq N a b = some r) : pU 21 [.agg (Yi.cells a), .agg (Yi.cells b)] (.bool r) := by
 refine Q2 k21 ?_;unfold Xq at h;rw [cX, cY] at h;refine iL h fun h => ?_;refine iL h fun h => ?_;refine iL h fun h => ?_;refine iL h fun h => ?_;refine lpH (τ := Int) (fun s22 => (a2 (.any :: .ptr 1 0 :: a16 (a16 (.p (.slice 4 (Q0.rows a.Values)) :: iI ((Q0.rows a.Values).length : Int) :: iI s22 :: a8 (a4 (.any :: []))))) : List AV)) (fun n0 s22 => Yv N a b n0 s22) (0) h fun n0 s22 h => ?_
 first | rw [Yv] at h | simp only [Yv] at h
 rw [cX] at h;refine iR h fun h => ?_;refine Q0.xR h fun y24 h => ?_;refine Qa ?_;refine Q0.xR h fun y26 h => ?_;refine cD h Qbq (.cons q4 (.cons q4 .nil)) fun v28 h => ?_;refine iL h fun h => ?_;show Exists _;exact ⟨(n0, (wrap .i64 (s22 + 1))), h, Le _, (fun i => i), Z6⟩
def Wl (N : Nat) (a : Qn) (b : Qn) : Option Bool :=
 cond (Q3 .neq a.Proto b.Proto)
 (some false)
 (cond (Q3 .neq a.Kind b.Kind)
 (some false)
 (cond (Q4s .neq a.Topic b.Topic)
 (some false)
 (cond (Q4s .neq a.Payload b.Payload)
 (some false)
 (cond (Q3 .neq a.QoS b.QoS)
 (some false)
 (cond (!(a.Retain == b.Retain))
 (some false)
 (cond (!(a.Dup == b.Dup))
 (some false)
 (cond (Q3 .neq a.ID b.ID)
 (some false)
 (cond (Q3 .neq a.Type' b.Type')
 (some false)
 (cond (Q3 .neq a.Channel b.Channel)
 (some false)
 ((Q5k N a.Props b.Props).bind fun v11 =>
 cond v11
 ((Ye N a.Hops b.Hops).bind fun v14 =>
 cond v14
 ((Za N a.Packet b.Packet).bind fun v17 =>
 cond v17
 (cond (((a.Msg.Type' : Int) == b.Msg.Type') && (((a.Msg.Flags.Dup : Bool) == b.Msg.Flags.Dup) && (((a.Msg.Flags.QoS : Int) == b.Msg.Flags.QoS) && (((a.Msg.Flags.Retain : Bool) == b.Msg.Flags.Retain) && (((a.Msg.Flags.Will : Bool) == b.Msg.Flags.Will) && (((a.Msg.Flags.Clean : Bool) == b.Msg.Flags.Clean) && (((a.Msg.Flags.Type' : Int) == b.Msg.Flags.Type') && (((a.Msg.Gateway : Int) == b.Msg.Gateway) && (((a.Msg.Radius : Int) == b.Msg.Radius) && (((a.Msg.Time : Int) == b.Msg.Time) && (((a.Msg.Timed : Bool) == b.Msg.Timed) && (((a.Msg.TopicID : Int) == b.Msg.TopicID) && (((a.Msg.MsgID : Int) == b.Msg.MsgID) && (((a.Msg.Code : Int) == b.Msg.Code) && (((a.Msg.Name : List UInt8) == b.Msg.Name) && (((a.Msg.Data : List UInt8) == b.Msg.Data) && true))))))))))))))))
 ((Xq N a.Frame b.Frame).bind fun v21 =>
 some v21)
 (some false))
 (some false))
 (some false))
 (some false)))))))))))
theorem Ug {N} {a} {b} {r} (h : Wl N a b = some r) : pU 8 [.agg (Qn.cells a), .agg (Qn.cells b)] (.bool r) := by
 refine Q2 k8 ?_;unfold Wl at h;rw [cX, cY] at h;refine iL h fun h => ?_;refine iL h fun h => ?_;refine iL h fun h => ?_;refine iL h fun h => ?_;refine iL h fun h => ?_;refine iL h fun h => ?_;refine iL h fun h => ?_;refine iL h fun h => ?_;refine iL h fun h => ?_;refine iL h fun h => ?_;refine cP h Qh3 p2 fun v11 h => ?_;refine iR h fun h => ?_;refine cP h Q35 p2 fun v14 h => ?_;refine iR h fun h => ?_;refine cP h Qv (.cons (Frz.agg' (Yj (f2_ (f1_ (.cons (.p _) p5))))) (.cons (Frz.agg' (Yj (f2_ (f1_ (.cons (.p _) p5))))) .nil)) fun v17 h => ?_;refine iR h fun h => ?_;refine Qtg (ks := [0, 2, 0, 2, 2, 2, 0, 0, 0, 0, 2, 0, 0, 0, 1, 1]) (xs := [iI a.Msg.Type', .p (.bool a.Msg.Flags.Dup), iI a.Msg.Flags.QoS, .p (.bool a.Msg.Flags.Retain), .p (.bool a.Msg.Flags.Will), .p (.bool a.Msg.Flags.Clean), iI a.Msg.Flags.Type', iI a.Msg.Gateway, iI a.Msg.Radius, iI a.Msg.Time, .p (.bool a.Msg.Timed), iI a.Msg.TopicID, iI a.Msg.MsgID, iI a.Msg.Code, iS a.Msg.Name, iS a.Msg.Data]) (ys := [iI b.Msg.Type', .p (.bool b.Msg.Flags.Dup), iI b.Msg.Flags.QoS, .p (.bool b.Msg.Flags.Retain), .p (.bool b.Msg.Flags.Will), .p (.bool b.Msg.Flags.Clean), iI b.Msg.Flags.Type', iI b.Msg.Gateway, iI b.Msg.Radius, iI b.Msg.Time, .p (.bool b.Msg.Timed), iI b.Msg.TopicID, iI b.Msg.MsgID, iI b.Msg.Code, iS b.Msg.Name, iS b.Msg.Data]) (b := (((a.Msg.Type' : Int) == b.Msg.Type') && (((a.Msg.Flags.Dup : Bool) == b.Msg.Flags.Dup) && (((a.Msg.Flags.QoS : Int) == b.Msg.Flags.QoS) && (((a.Msg.Flags.Retain : Bool) == b.Msg.Flags.Retain) && (((a.Msg.Flags.Will : Bool) == b.Msg.Flags.Will) && (((a.Msg.Flags.Clean : Bool) == b.Msg.Flags.Clean) && (((a.Msg.Flags.Type' : Int) == b.Msg.Flags.Type') && (((a.Msg.Gateway : Int) == b.Msg.Gateway) && (((a.Msg.Radius : Int) == b.Msg.Radius) && (((a.Msg.Time : Int) == b.Msg.Time) && (((a.Msg.Timed : Bool) == b.Msg.Timed) && (((a.Msg.TopicID : Int) == b.Msg.TopicID) && (((a.Msg.MsgID : Int) == b.Msg.MsgID) && (((a.Msg.Code : Int) == b.Msg.Code) && (((a.Msg.Name : List UInt8) == b.Msg.Name) && (((a.Msg.Data : List UInt8) == b.Msg.Data) && true))))))))))))))))) rfl ?_;refine iR h fun h => ?_;refine cP h Q2j (.cons q4 (.cons q4 .nil)) fun v21 h => ?_;cases h; exact (.p _)
def Xn (rz : Q0 → Option Q0) (N : Nat) (v : Q0) (c13 : Int) : Nat → Int → (List Q0) → Option Q0
 | 0, _, _ => none
 | n + 1, s39, l40 =>
  cond (Q3 .lss s39 ((Q0.rows v.Items).length : Int))
  ((idx v.Items s39).bind fun y42 =>
  (rz y42).bind fun v44 =>
  cond (Nat.ble ((l40.length + 1 + 4096) * 56) 17592186044416) (Xn rz N v c13 n (wrap .i64 (s39 + 1)) (l40 ++ [v44])) none)
  (some (⟨v.Kind, c13, v.Text, l40⟩ : Q0))
def Xm (rz : Q0 → Option Q0) (N : Nat) (v : Q0) (c13 : Int) : Option Q0 :=
 Xn rz N v c13 N 0 []
def Vl (_N : Nat) (k0 : Int → Option Q0) (v : Q0) (s22 : Bool) : Option Q0 :=
 cond s22
 (k0 9221120237041090560)
 (k0 v.N')
def Vo (N : Nat) (k0 : Int → Option Q0) (v : Q0) (s16 : Bool) : Option Q0 :=
 cond s16
 (k0 2143289344)
 (cond (Q3 .eql v.Kind 12)
 (cond (Q3 .eql (Jq .u64 (Q4m .u64 v.N' 52) 2047) 2047)
 (Vl N k0 v (Q3 .neq (Gy .u64 v.N' 12) 0))
 (Vl N k0 v false))
 (Vl N k0 v false))
def Q0i (rz : Q0 → Option Q0) (N : Nat) (v : Q0) : Option Q0 :=
 cond (Q3 .eql v.Kind 11)
 (cond (Q3 .eql (Jq .u64 (Q4m .u64 v.N' 23) 255) 255)
 (Vo N (Xm rz N v) v (Q3 .neq (Gy .u64 v.N' 41) 0))
 (Vo N (Xm rz N v) v false))
 (Vo N (Xm rz N v) v false)
theorem Qb3 {rz : Q0 → Option Q0} (hx1 : ∀ {v} {r}, rz v = some r → pU 76 [.agg (Q0.cells v)] (.agg (Q0.cells r))) {N} {v} {r} (h : Q0i rz N v = some r) : pU 76 [.agg (Q0.cells v)] (.agg (Q0.cells r)) := by
 refine Q2 k76 ?_;unfold Q0i at h;rw [cX] at h;refine jrA (r := r) (σ := Int) (fun _ => (.any :: .ptr 0 0 :: .ptr 1 0 :: .ptr 2 0 :: a16 (a16 (a16 (a8 (a4 (.any :: []))))) : List AV)) (fun c13 => (.cells (iI v.Kind :: iW v.N' :: iS v.Text :: .p (.slice 4 (Q0.rows v.Items)) :: []) :: .cells (iI 0 :: iW 0 :: iS [] :: .p .nilSlice :: []) :: .cells (iI v.Kind :: iW c13 :: iS v.Text :: .p .nilSlice :: []) :: [] : List AObj)) (fun c13 => Xm rz N v c13) ?_ ?_
 ·refine jrH (r := r) (σ := Bool) (fun s16 => (.any :: .ptr 0 0 :: .ptr 1 0 :: .ptr 2 0 :: a8 (.any :: .p (.bool s16) :: a16 (a16 (a16 (a2 (.any :: []))))) : List AV)) (fun s16 => Vo N (Xm rz N v) v s16) ?_ ?_
  ·apply iU h <;> intro h
   ·apply iU h <;> intro h
    ·show Exists _;exact ⟨((Qs2 .neq (Gy .u64 v.N' 41) 0)), h, (fun i => i), Z6⟩
    show Exists _;exact ⟨(false), h, (fun i => i), Z6⟩
   show Exists _;exact ⟨(false), h, (fun i => i), Z6⟩
  rintro s16 h
  unfold Vo at h;rw [cX] at h;apply iU h <;> intro h
  ·show Exists _;exact ⟨(2143289344), h, (fun i => i), Z6⟩
  refine jrH (r := r) (σ := Bool) (fun s22 => (.any :: .ptr 0 0 :: .ptr 1 0 :: .ptr 2 0 :: a16 (a8 (a2 (.any :: .p (.bool s22) :: a16 (a16 (.any :: []))))) : List AV)) (fun s22 => Vl N (Xm rz N v) v s22) ?_ ?_
  ·apply iU h <;> intro h
   ·apply iU h <;> intro h
    ·show Exists _;exact ⟨((Qs2 .neq (Gy .u64 v.N' 12) 0)), h, (fun i => i), Z6⟩
    show Exists _;exact ⟨(false), h, (fun i => i), Z6⟩
   show Exists _;exact ⟨(false), h, (fun i => i), Z6⟩
  rintro s22 h
  unfold Vl at h;apply iU h <;> intro h
  ·show Exists _;exact ⟨(9221120237041090560), h, (fun i => i), Z6⟩
  show Exists _;exact ⟨(v.N'), h, (fun i => i), Z6⟩
 rintro c13 h
 unfold Xm at h;refine lpA (τ := Int × (List Q0)) (fun ⟨s39, _⟩ => (.any :: .any :: .ptr 1 0 :: .ptr 2 0 :: a16 (a16 (a8 (a4 (a2 (.p (.slice 4 (Q0.rows v.Items)) :: iI ((Q0.rows v.Items).length : Int) :: iI s39 :: a8 (a4 ([]))))))) : List AV)) (fun ⟨_, l40⟩ => (.cells (iI v.Kind :: iW v.N' :: iS v.Text :: .p (.slice 4 (Q0.rows v.Items)) :: []) :: .cells (iI 0 :: iW 0 :: iS [] :: .p .nilSlice :: []) :: .cells (iI v.Kind :: iW c13 :: iS v.Text :: .slice 4 3 0 l40.length :: []) :: .cells (Qu Q0.cells l40) :: [] : List AObj)) (fun n3 ⟨s39, l40⟩ => Xn rz N v c13 n3 s39 l40) (0, []) h fun n3 ⟨s39, l40⟩ h => ?_
 first | rw [Xn] at h | simp only [Xn] at h
 rw [cX] at h;apply iU h <;> intro h
 ·refine Q0.xR h fun y42 h => ?_;refine Qa ?_;refine cD h hx1 (.cons q4 .nil) fun v44 h => ?_;obtain ⟨hk46, h⟩ := Q4u h;refine Js (Xe (c := Q0.cells) (e := 4) (fun _ => rfl) sd hk46) ?_;refine Uy (c := Q0.cells) [v44] rfl ?_;show Exists _;exact ⟨(n3, (wrap .i64 (s39 + 1)), (l40 ++ [v44])), h, Le _, (rho [0, 1, 2, 6]), Z6⟩
 obtain rfl := Qd h; exact (Frz.agg' (f2_ (f1_ (.cons (Q0.frz_own (l := l40) rfl trivial sd) .nil))))
def Yl : Nat → Q0 → Option Q0
 | 0 => fun _ => none
 | N + 1 => Q0i (Yl N) N
theorem Q68 {N} {v} {r} (h : Yl N v = some r) : pU 76 [.agg (Q0.cells v)] (.agg (Q0.cells r)) := by
 induction N generalizing v r with
 | zero => simp [Yl] at h
 | succ N ih => exact Qb3 (fun h => ih h) h
def Wf (N : Nat) (f : Yi) : Nat → Int → (List Q0) → Option (Yi)
 | 0, _, _ => none
 | n + 1, s14, l15 =>
  cond (Q3 .lss s14 ((Q0.rows f.Values).length : Int))
  ((idx f.Values s14).bind fun y17 =>
  (Yl N y17).bind fun v19 =>
  cond (Nat.ble ((l15.length + 1 + 4096) * 56) 17592186044416) (Wf N f n (wrap .i64 (s14 + 1)) (l15 ++ [v19])) none)
  (some (⟨f.Type', f.Channel, f.Ext, l15⟩ : Yi))
def Q2v (N : Nat) (f : Yi) : Option (Yi) :=
 Wf N f N 0 []
theorem Qbp {N} {f} {r} (h : Q2v N f = some r) : pU 58 [.agg (Yi.cells f)] (.agg (Yi.cells r)) := by
 refine Q2 k58 ?_;unfold Q2v at h;refine lpA (τ := Int × (List Q0)) (fun ⟨s14, _⟩ => (.any :: .any :: .ptr 1 0 :: .ptr 2 0 :: a8 (a2 (.p (.slice 4 (Q0.rows f.Values)) :: iI ((Q0.rows f.Values).length : Int) :: iI s14 :: a8 (a4 ([])))) : List AV)) (fun ⟨_, l15⟩ => (.cells (Qy2 f ([])) :: .cells (iI 0 :: iI 0 :: iS [] :: .p .nilSlice :: []) :: .cells (iI f.Type' :: iI f.Channel :: iS f.Ext :: .slice 4 3 0 l15.length :: []) :: .cells (Qu Q0.cells l15) :: [] : List AObj)) (fun n0 ⟨s14, l15⟩ => Wf N f n0 s14 l15) (0, []) h fun n0 ⟨s14, l15⟩ h => ?_
 first | rw [Wf] at h | simp only [Wf] at h
 rw [cX] at h;apply iU h <;> intro h
 ·refine Q0.xR h fun y17 h => ?_;refine Qa ?_;refine cD h Q68 (.cons q4 .nil) fun v19 h => ?_;obtain ⟨hk21, h⟩ := Q4u h;refine Js (Xe (c := Q0.cells) (e := 4) (fun _ => rfl) sd hk21) ?_;refine Uy (c := Q0.cells) [v19] rfl ?_;show Exists _;exact ⟨(n0, (wrap .i64 (s14 + 1)), (l15 ++ [v19])), h, Le _, (rho [0, 1, 2, 6]), Z6⟩
 obtain rfl := Qd h; exact (Frz.agg' (f2_ (f1_ (.cons (Q0.frz_own (l := l15) rfl trivial sd) .nil))))
def Q1w (N : Nat) (s_0 : List UInt8) : Nat → Int → Int → Option Int
 | 0, _, _ => none
 | n + 1, n12, s13 =>
  cond (Q3 .lss s13 (((s_0.take s_0.length).drop ((wrap .i64 ((s_0.length : Int) - 8)).toNat)).length : Int))
  ((idx ((s_0.take s_0.length).drop ((wrap .i64 ((s_0.length : Int) - 8)).toNat)) s13).bind fun b15 =>
  Q1w N s_0 n (orI .u64 (Gy .u64 n12 8) (wrap .u64 (b15.toNat : Int))) (wrap .i64 (s13 + 1)))
  (some n12)
def Q1o (N : Nat) (s_0 : List UInt8) : Nat → Int → Int → Option Int
 | 0, _, _ => none
 | n + 1, n25, s26 =>
  cond (Q3 .lss s26 (s_0.length : Int))
  ((idx s_0 s26).bind fun b28 =>
  Q1o N s_0 n (orI .u64 (Gy .u64 n25 8) (wrap .u64 (b28.toNat : Int))) (wrap .i64 (s26 + 1)))
  (some n25)
def Vy (N : Nat) (s_0 : List UInt8) : Option Int :=
 cond (Q3 .gtr (s_0.length : Int) 8)
 (cond (decide (0 ≤ (wrap .i64 ((s_0.length : Int) - 8)))) (cond (Nat.ble (wrap .i64 ((s_0.length : Int) - 8)).toNat s_0.length && Nat.ble s_0.length s_0.length) (Q1w N s_0 N 0 0) none) none)
 (Q1o N s_0 N 0 0)
theorem Vc {N} {s_0} {r} (h : Vy N s_0 = some r) : pU 85 [.str s_0] (.int .u64 r) := by
 refine Q2 k85 ?_;unfold Vy at h;rw [cX] at h;apply iU h <;> intro h
 ·refine kU h fun h => ?_;refine kU h fun h => ?_;refine lpH (τ := Int × Int) (fun ⟨n12, s13⟩ => (.p (.str ((s_0.take s_0.length).drop ((wrap .i64 ((s_0.length : Int) - 8)).toNat))) :: .any :: .any :: iW n12 :: a8 (a2 (.p (.int .i64 (((s_0.take s_0.length).drop ((wrap .i64 ((s_0.length : Int) - 8)).toNat)).length : Int)) :: iI s13 :: a8 (a2 (.any :: [])))) : List AV)) (fun n0 ⟨n12, s13⟩ => Q1w N s_0 n0 n12 s13) (0, 0) h fun n0 ⟨n12, s13⟩ h => ?_
  first | rw [Q1w] at h | simp only [Q1w] at h
  rw [cX] at h;refine iR h fun h => ?_;refine xB h fun b15 h => ?_;show Exists _;exact ⟨(n0, (orI .u64 (Gy .u64 n12 8) (wrap .u64 (b15.toNat : Int))), (wrap .i64 (s13 + 1))), h, Le _, (fun i => i), Z6⟩
 refine lpH (τ := Int × Int) (fun ⟨n25, s26⟩ => (iS s_0 :: .any :: .any :: iW n25 :: a8 (a2 (iI (s_0.length : Int) :: iI s26 :: a8 (a2 (.any :: [])))) : List AV)) (fun n1 ⟨n25, s26⟩ => Q1o N s_0 n1 n25 s26) (0, 0) h fun n1 ⟨n25, s26⟩ h => ?_
 first | rw [Q1o] at h | simp only [Q1o] at h
 rw [cX] at h;refine iR h fun h => ?_;refine xB h fun b28 h => ?_;show Exists _;exact ⟨(n1, (orI .u64 (Gy .u64 n25 8) (wrap .u64 (b28.toNat : Int))), (wrap .i64 (s26 + 1))), h, Le _, (fun i => i), Z6⟩
def Xd (N : Nat) (n_0 : Int) (size : Int) : Nat → Int → (List Int) → Option (List UInt8)
 | 0, _, _ => none
 | n + 1, s14, l15 =>
  cond (Q3 .lss s14 (ifB (decide (16 < size)) 16 size))
  (cond (Q3 .lss s14 8)
  (cond (decide (0 ≤ (wrap .u64 (wrap .i64 (8 * s14))))) ((idx (l15 : List Int) (wrap .i64 ((wrap .i64 ((ifB (decide (16 < size)) 16 size) - 1)) - s14))).bind fun y19 =>
  Xd N n_0 size n (wrap .i64 (s14 + 1)) ((l15 : List Int).set (Int.toNat (wrap .i64 ((wrap .i64 ((ifB (decide (16 < size)) 16 size) - 1)) - s14))) (wrap .u8 (Q4m .u64 n_0 (wrap .u64 (wrap .i64 (8 * s14))))))) none)
  (Xd N n_0 size n (wrap .i64 (s14 + 1)) l15))
  (some (l15.map fun n => UInt8.ofNat n.toNat))
def Qo (N : Nat) (n_0 : Int) (size : Int) : Option (List UInt8) :=
 cond (Q3 .leq size 0)
 (some [])
 (cond (decide (0 ≤ (ifB (decide (16 < size)) 16 size)) && decide ((ifB (decide (16 < size)) 16 size) ≤ (ifB (decide (16 < size)) 16 size)) && decide ((ifB (decide (16 < size)) 16 size) * 1 ≤ 1099511627776)) (Xd N n_0 size N 0 (List.replicate ((ifB (decide (16 < size)) 16 size) : Int).toNat (0 : Int))) none)
theorem Qh {N} {n_0} {size} {r} (h : Qo N n_0 size = some r) : pU 119 [.int .u64 n_0, .int .i64 size] (.str r) := by
 refine Q2 Zcq ?_;unfold Qo at h;rw [cX] at h;refine iL h fun h => ?_;refine kU h fun h => ?_;refine Qzz (c := (cI .u8)) (0 : Int) rfl ?_;refine lpC (τ := Int × (List Int)) (fun ⟨s14, l15⟩ => (iW n_0 :: .p (.int .i64 (ifB (decide (16 < size)) 16 size)) :: a2 (.any :: .slice 1 1 0 l15.length :: a4 (a2 (.any :: .p (.int .i64 (ifB (decide (16 < size)) 16 size)) :: iI s14 :: a16 (a2 (.any :: []))))) : List AV)) (fun ⟨_, l15⟩ => (.dead :: .cells (Qu (cI .u8) l15) :: [] : List AObj)) (fun n0 ⟨s14, l15⟩ => Xd N n_0 size n0 s14 l15) (0, (List.replicate ((ifB (decide (16 < size)) 16 size) : Int).toNat (0 : Int))) h (rho [0, 0]) Z6 fun n0 ⟨s14, l15⟩ h => ?_
 first | rw [Xd] at h | simp only [Xd] at h
 rw [cX] at h;apply iU h <;> intro h
 ·apply iU h <;> intro h
  ·refine kU h fun h => ?_;obtain ⟨y19, hy20, h⟩ := U1 h;refine Js (Uz hy20 sd) ?_;refine Js (Jb (c := (cI .u8)) (e := 1) (fun _ => rfl) hy20 (off := 0) (by omega) rfl (by decide)) ?_
   refine Jc (c := (cI .u8)) (e := 1) (fun _ => rfl) hy20 (wrap .u8 (Q4m .u64 n_0 (wrap .u64 (wrap .i64 (8 * s14))))) (off := 0) (by first | omega | (simp only [Jq, orI, Qc7, W8, Gy, Q4m]; omega)) rfl (by simp) ?_
   show Exists _;exact ⟨(n0, (wrap .i64 (s14 + 1)), ((l15 : List Int).set (Int.toNat (wrap .i64 ((wrap .i64 ((ifB (decide (16 < size)) 16 size) - 1)) - s14))) (wrap .u8 (Q4m .u64 n_0 (wrap .u64 (wrap .i64 (8 * s14))))))), h, Le _, (fun i => i), Z6⟩
  show Exists _;exact ⟨(n0, (wrap .i64 (s14 + 1)), l15), h, Le _, (fun i => i), Z6⟩
 refine Qhd (l := l15) (n := l15.length) sd ?_;cases h; exact (.p _)
def Yg (N : Nat) (c : Q4) : Option ((Unit) × Q4) :=
 cond (Q3 .eql c.do' 0)
 ((Vy N []).bind fun v2 =>
 some ((), (⟨c.do', (⟨c.m.Type', c.m.Flags, (wrap .i64 v2), c.m.Radius, c.m.Time, c.m.Timed, c.m.TopicID, c.m.MsgID, c.m.Code, c.m.Name, c.m.Data⟩ : Q1f), c.out, c.bad⟩ : Q4)))
 (cond (Q3 .eql c.do' 1)
 ((Qo N (wrap .u64 c.m.Gateway) 1).bind fun v5 =>
 cond (!(Nat.beq v5.length 0)) (cond (Nat.ble ((c.out.length + v5.length + 4096) * 1) 17592186044416) (some ((), (⟨c.do', c.m, (c.out ++ (v5.map fun b => (b.toNat : Int))), c.bad⟩ : Q4))) none) none)
 (cond c.bad
 (some ((), (⟨c.do', (⟨c.m.Type', c.m.Flags, 0, c.m.Radius, c.m.Time, c.m.Timed, c.m.TopicID, c.m.MsgID, c.m.Code, c.m.Name, c.m.Data⟩ : Q1f), c.out, true⟩ : Q4)))
 (cond (Q3 .lss c.m.Gateway 0)
 (some ((), (⟨c.do', (⟨c.m.Type', c.m.Flags, 0, c.m.Radius, c.m.Time, c.m.Timed, c.m.TopicID, c.m.MsgID, c.m.Code, c.m.Name, c.m.Data⟩ : Q1f), c.out, true⟩ : Q4)))
 (some ((), (⟨c.do', (⟨c.m.Type', c.m.Flags, 0, c.m.Radius, c.m.Time, c.m.Timed, c.m.TopicID, c.m.MsgID, c.m.Code, c.m.Name, c.m.Data⟩ : Q1f), c.out, (Q3 .geq c.m.Gateway (Gy .i64 1 8))⟩ : Q4))))))
theorem Q2g {N} {c} {r} (h : Yg N c = some r) : gU 269 (.ptr 0 0 :: []) (.cells (Jr c 1) :: .cells (Qu (cI .u8) c.out) :: []) (.tuple []) (.cells (Jr r.2 2) :: .dead :: .cells (Qu (cI .u8) r.2.out) :: []) := by
 refine X2 Zf3 (Lo rfl) ?_;unfold Yg at h;rw [cX] at h;refine Qi Qw7 ?_;apply iU h <;> intro h
 ·refine Qi Qxx ?_;refine Qi Qvf ?_;refine Qi Qq3 ?_;refine cP h Vc p1 fun v2 h => ?_;obtain rfl := Qd h;show Exists _;exact ⟨(rho [0, 1, 1]), Z6⟩
 apply iU h <;> intro h
 ·refine Qa ?_;refine cD h Qh p2 fun v5 h => ?_;refine Q41 (b := v5) ?_;obtain ⟨hk7, h⟩ := Q4u h;refine ifF (Qlr hk7) ?_;obtain ⟨hk8, h⟩ := Q4u h;refine Js (Xe (c := (cI .u8)) (e := 1) (l := c.out) (fun _ => rfl) sd hk8) ?_;refine Uy (c := (cI .u8)) (l := c.out) (v5.map fun b => (b.toNat : Int)) rfl ?_;obtain rfl := Qd h;show Exists _;exact ⟨(rho [0, 1, 2]), Z6⟩
 refine Qa ?_;apply iU h <;> intro h
 ·obtain rfl := Qd h;show Exists _;exact ⟨(rho [0, 1, 1]), Z6⟩
 apply iU h <;> intro h
 ·obtain rfl := Qd h;show Exists _;exact ⟨(rho [0, 1, 1]), Z6⟩
 obtain rfl := Qd h;show Exists _;exact ⟨(rho [0, 1, 1]), Z6⟩
def Yz (N : Nat) (c : Q4) : Option ((Unit) × Q4) :=
 cond (Q3 .eql c.do' 0)
 ((Vy N []).bind fun v2 =>
 some ((), (⟨c.do', (⟨c.m.Type', c.m.Flags, c.m.Gateway, c.m.Radius, (wrap .i64 v2), c.m.Timed, c.m.TopicID, c.m.MsgID, c.m.Code, c.m.Name, c.m.Data⟩ : Q1f), c.out, c.bad⟩ : Q4)))
 (cond (Q3 .eql c.do' 1)
 ((Qo N (wrap .u64 c.m.Time) 2).bind fun v5 =>
 cond (!(Nat.beq v5.length 0)) (cond (Nat.ble ((c.out.length + v5.length + 4096) * 1) 17592186044416) (some ((), (⟨c.do', c.m, (c.out ++ (v5.map fun b => (b.toNat : Int))), c.bad⟩ : Q4))) none) none)
 (cond c.bad
 (some ((), (⟨c.do', (⟨c.m.Type', c.m.Flags, c.m.Gateway, c.m.Radius, 0, c.m.Timed, c.m.TopicID, c.m.MsgID, c.m.Code, c.m.Name, c.m.Data⟩ : Q1f), c.out, true⟩ : Q4)))
 (cond (Q3 .lss c.m.Time 0)
 (some ((), (⟨c.do', (⟨c.m.Type', c.m.Flags, c.m.Gateway, c.m.Radius, 0, c.m.Timed, c.m.TopicID, c.m.MsgID, c.m.Code, c.m.Name, c.m.Data⟩ : Q1f), c.out, true⟩ : Q4)))
 (some ((), (⟨c.do', (⟨c.m.Type', c.m.Flags, c.m.Gateway, c.m.Radius, 0, c.m.Timed, c.m.TopicID, c.m.MsgID, c.m.Code, c.m.Name, c.m.Data⟩ : Q1f), c.out, (Q3 .geq c.m.Time (Gy .i64 1 16))⟩ : Q4))))))
theorem Q08 {N} {c} {r} (h : Yz N c = some r) : gU 270 (.ptr 0 0 :: []) (.cells (Jr c 1) :: .cells (Qu (cI .u8) c.out) :: []) (.tuple []) (.cells (Jr r.2 2) :: .dead :: .cells (Qu (cI .u8) r.2.out) :: []) := by
 refine X2 Zfh (Lo rfl) ?_;unfold Yz at h;rw [cX] at h;refine Qi Qw7 ?_;apply iU h <;> intro h
 ·refine Qi Qxx ?_;refine Qi Qvf ?_;refine Qi Qq3 ?_;refine cP h Vc p1 fun v2 h => ?_;obtain rfl := Qd h;show Exists _;exact ⟨(rho [0, 1, 1]), Z6⟩
 apply iU h <;> intro h
 ·refine Qa ?_;refine cD h Qh p2 fun v5 h => ?_;refine Q41 (b := v5) ?_;obtain ⟨hk7, h⟩ := Q4u h;refine ifF (Qlr hk7) ?_;obtain ⟨hk8, h⟩ := Q4u h;refine Js (Xe (c := (cI .u8)) (e := 1) (l := c.out) (fun _ => rfl) sd hk8) ?_;refine Uy (c := (cI .u8)) (l := c.out) (v5.map fun b => (b.toNat : Int)) rfl ?_;obtain rfl := Qd h;show Exists _;exact ⟨(rho [0, 1, 2]), Z6⟩
 refine Qa ?_;apply iU h <;> intro h
 ·obtain rfl := Qd h;show Exists _;exact ⟨(rho [0, 1, 1]), Z6⟩
 apply iU h <;> intro h
 ·obtain rfl := Qd h;show Exists _;exact ⟨(rho [0, 1, 1]), Z6⟩
 obtain rfl := Qd h;show Exists _;exact ⟨(rho [0, 1, 1]), Z6⟩
def Xk (N : Nat) (c : Q4) : Option ((Unit) × Q4) :=
 cond (Q3 .eql c.do' 0)
 ((Vy N []).bind fun v2 =>
 some ((), (⟨c.do', (⟨c.m.Type', c.m.Flags, c.m.Gateway, (wrap .i64 v2), c.m.Time, c.m.Timed, c.m.TopicID, c.m.MsgID, c.m.Code, c.m.Name, c.m.Data⟩ : Q1f), c.out, c.bad⟩ : Q4)))
 (cond (Q3 .eql c.do' 1)
 ((Qo N (wrap .u64 c.m.Radius) 1).bind fun v5 =>
 cond (!(Nat.beq v5.length 0)) (cond (Nat.ble ((c.out.length + v5.length + 4096) * 1) 17592186044416) (some ((), (⟨c.do', c.m, (c.out ++ (v5.map fun b => (b.toNat : Int))), c.bad⟩ : Q4))) none) none)
 (cond c.bad
 (some ((), (⟨c.do', (⟨c.m.Type', c.m.Flags, c.m.Gateway, 0, c.m.Time, c.m.Timed, c.m.TopicID, c.m.MsgID, c.m.Code, c.m.Name, c.m.Data⟩ : Q1f), c.out, true⟩ : Q4)))
 (cond (Q3 .lss c.m.Radius 0)
 (some ((), (⟨c.do', (⟨c.m.Type', c.m.Flags, c.m.Gateway, 0, c.m.Time, c.m.Timed, c.m.TopicID, c.m.MsgID, c.m.Code, c.m.Name, c.m.Data⟩ : Q1f), c.out, true⟩ : Q4)))
 (some ((), (⟨c.do', (⟨c.m.Type', c.m.Flags, c.m.Gateway, 0, c.m.Time, c.m.Timed, c.m.TopicID, c.m.MsgID, c.m.Code, c.m.Name, c.m.Data⟩ : Q1f), c.out, (Q3 .geq c.m.Radius (Gy .i64 1 8))⟩ : Q4))))))
theorem Q79 {N} {c} {r} (h : Xk N c = some r) : gU 271 (.ptr 0 0 :: []) (.cells (Jr c 1) :: .cells (Qu (cI .u8) c.out) :: []) (.tuple []) (.cells (Jr r.2 2) :: .dead :: .cells (Qu (cI .u8) r.2.out) :: []) := by
 refine X2 Zaj (Lo rfl) ?_;unfold Xk at h;rw [cX] at h;refine Qi Qw7 ?_;apply iU h <;> intro h
 ·refine Qi Qxx ?_;refine Qi Qvf ?_;refine Qi Qq3 ?_;refine cP h Vc p1 fun v2 h => ?_;obtain rfl := Qd h;show Exists _;exact ⟨(rho [0, 1, 1]), Z6⟩
 apply iU h <;> intro h
 ·refine Qa ?_;refine cD h Qh p2 fun v5 h => ?_;refine Q41 (b := v5) ?_;obtain ⟨hk7, h⟩ := Q4u h;refine ifF (Qlr hk7) ?_;obtain ⟨hk8, h⟩ := Q4u h;refine Js (Xe (c := (cI .u8)) (e := 1) (l := c.out) (fun _ => rfl) sd hk8) ?_;refine Uy (c := (cI .u8)) (l := c.out) (v5.map fun b => (b.toNat : Int)) rfl ?_;obtain rfl := Qd h;show Exists _;exact ⟨(rho [0, 1, 2]), Z6⟩
 refine Qa ?_;apply iU h <;> intro h
 ·obtain rfl := Qd h;show Exists _;exact ⟨(rho [0, 1, 1]), Z6⟩
 apply iU h <;> intro h
 ·obtain rfl := Qd h;show Exists _;exact ⟨(rho [0, 1, 1]), Z6⟩
 obtain rfl := Qd h;show Exists _;exact ⟨(rho [0, 1, 1]), Z6⟩
def Z4 (_N : Nat) (c : Q4) : Option ((Unit) × Q4) :=
 cond (Q3 .eql c.do' 0)
 (some ((), (⟨c.do', (⟨c.m.Type', c.m.Flags, c.m.Gateway, c.m.Radius, c.m.Time, c.m.Timed, c.m.TopicID, c.m.MsgID, c.m.Code, [], c.m.Data⟩ : Q1f), c.out, c.bad⟩ : Q4)))
 (cond (Q3 .eql c.do' 1)
 (cond (Nat.beq c.m.Name.length 0)
 (some ((), c))
 (cond (Nat.ble ((c.out.length + c.m.Name.length + 4096) * 1) 17592186044416) (some ((), (⟨c.do', c.m, (c.out ++ (c.m.Name.map fun b => (b.toNat : Int))), c.bad⟩ : Q4))) none))
 (some ((), (⟨c.do', (⟨c.m.Type', c.m.Flags, c.m.Gateway, c.m.Radius, c.m.Time, c.m.Timed, c.m.TopicID, c.m.MsgID, c.m.Code, [], c.m.Data⟩ : Q1f), c.out, c.bad⟩ : Q4))))
theorem Y4 {N} {c} {r} (h : Z4 N c = some r) : gU 272 (.ptr 0 0 :: []) (.cells (Jr c 1) :: .cells (Qu (cI .u8) c.out) :: []) (.tuple []) (.cells (Jr r.2 2) :: .dead :: .cells (Qu (cI .u8) r.2.out) :: []) := by
 refine X2 Zac (Lo rfl) ?_;unfold Z4 at h;rw [cX] at h;refine Qi Z4e ?_;apply iU h <;> intro h
 ·refine Qa ?_;refine Q56 [] (r := iI 0) rfl rfl (fun a ha o ho => ?_) (Qi Qzv ?_) ?_
  ·simp at ha
  ·refine Qi Qzm ?_;exact ⟨rfl, [], (Nc _).symm⟩
  refine Q56 [] (r := iS []) rfl rfl (fun a ha o ho => ?_) (Qi Qvf ?_) ?_
  ·simp at ha
  ·refine Qi Qq3 ?_;exact ⟨rfl, [], (Nc _).symm⟩
  obtain rfl := Qd h;show Exists _;exact ⟨(rho [0, 1, 1]), Z6⟩
 apply iU h <;> intro h
 ·refine Qa ?_;refine Q41 (b := c.m.Name) ?_;apply iU h <;> intro h
  ·obtain rfl := Qd h;show Exists _;exact ⟨(rho [0, 1, 1]), Z6⟩
  obtain ⟨hk4, h⟩ := Q4u h;refine Js (Xe (c := (cI .u8)) (e := 1) (l := c.out) (fun _ => rfl) sd hk4) ?_;refine Uy (c := (cI .u8)) (l := c.out) (c.m.Name.map fun b => (b.toNat : Int)) rfl ?_;obtain rfl := Qd h;show Exists _;exact ⟨(rho [0, 1, 2]), Z6⟩
 obtain rfl := Qd h;show Exists _;exact ⟨(rho [0, 1, 1]), Z6⟩
def Q10 (_N : Nat) (f : Xs) : Option (Int × Int) :=
 cond (Q3 .lss f.QoS (-1))
 (some (0, 7))
 (cond (Q3 .gtr f.QoS 2)
 (some (0, 7))
 (cond (Q3 .lss f.Type' 0)
 (some (0, 7))
 (cond (Q3 .gtr f.Type' 2)
 (some (0, 7))
 (cond f.Clean
 (cond f.Will
 (cond f.Retain
 (cond f.Dup
 (some ((orI .i64 (orI .i64 (orI .i64 (orI .i64 (orI .i64 f.Type' 4) 8) 16) 128) (wrap .i64 ((Jq .i64 f.QoS 3) * 32))), 0))
 (some ((orI .i64 (orI .i64 (orI .i64 (orI .i64 f.Type' 4) 8) 16) (wrap .i64 ((Jq .i64 f.QoS 3) * 32))), 0)))
 (cond f.Dup
 (some ((orI .i64 (orI .i64 (orI .i64 (orI .i64 f.Type' 4) 8) 128) (wrap .i64 ((Jq .i64 f.QoS 3) * 32))), 0))
 (some ((orI .i64 (orI .i64 (orI .i64 f.Type' 4) 8) (wrap .i64 ((Jq .i64 f.QoS 3) * 32))), 0))))
 (cond f.Retain
 (cond f.Dup
 (some ((orI .i64 (orI .i64 (orI .i64 (orI .i64 f.Type' 4) 16) 128) (wrap .i64 ((Jq .i64 f.QoS 3) * 32))), 0))
 (some ((orI .i64 (orI .i64 (orI .i64 f.Type' 4) 16) (wrap .i64 ((Jq .i64 f.QoS 3) * 32))), 0)))
 (cond f.Dup
 (some ((orI .i64 (orI .i64 (orI .i64 f.Type' 4) 128) (wrap .i64 ((Jq .i64 f.QoS 3) * 32))), 0))
 (some ((orI .i64 (orI .i64 f.Type' 4) (wrap .i64 ((Jq .i64 f.QoS 3) * 32))), 0)))))
 (cond f.Will
 (cond f.Retain
 (cond f.Dup
 (some ((orI .i64 (orI .i64 (orI .i64 (orI .i64 f.Type' 8) 16) 128) (wrap .i64 ((Jq .i64 f.QoS 3) * 32))), 0))
 (some ((orI .i64 (orI .i64 (orI .i64 f.Type' 8) 16) (wrap .i64 ((Jq .i64 f.QoS 3) * 32))), 0)))
 (cond f.Dup
 (some ((orI .i64 (orI .i64 (orI .i64 f.Type' 8) 128) (wrap .i64 ((Jq .i64 f.QoS 3) * 32))), 0))
 (some ((orI .i64 (orI .i64 f.Type' 8) (wrap .i64 ((Jq .i64 f.QoS 3) * 32))), 0))))
 (cond f.Retain
 (cond f.Dup
 (some ((orI .i64 (orI .i64 (orI .i64 f.Type' 16) 128) (wrap .i64 ((Jq .i64 f.QoS 3) * 32))), 0))
 (some ((orI .i64 (orI .i64 f.Type' 16) (wrap .i64 ((Jq .i64 f.QoS 3) * 32))), 0)))
 (cond f.Dup
 (some ((orI .i64 (orI .i64 f.Type' 128) (wrap .i64 ((Jq .i64 f.QoS 3) * 32))), 0))
 (some ((orI .i64 f.Type' (wrap .i64 ((Jq .i64 f.QoS 3) * 32))), 0)))))))))
theorem Q7w {N} {f} {r} (h : Q10 N f = some r) : pU 221 [.agg (Xs.cells f)] (.tuple [.int .i64 r.1, .int .i64 r.2]) := by
 refine Q2 Z6j ?_;unfold Q10 at h;rw [cX] at h;refine iL2 h fun h => ?_;refine iL2 h fun h => ?_;refine iL2 h fun h => ?_;refine iL2 h fun h => ?_;refine Qi Qmd ?_;apply iU h <;> intro h
 ·refine Qi Qmd ?_;apply iU h <;> intro h
  ·refine Qi Qmd ?_;apply iU h <;> intro h
   ·refine Qi Qmd ?_;exact iB2 h
   refine Qi Qmd ?_;exact iB2 h
  refine Qi Qmd ?_;apply iU h <;> intro h
  ·refine Qi Qmd ?_;exact iB2 h
  refine Qi Qmd ?_;exact iB2 h
 refine Qi Qmd ?_;apply iU h <;> intro h
 ·refine Qi Qmd ?_;apply iU h <;> intro h
  ·refine Qi Qmd ?_;exact iB2 h
  refine Qi Qmd ?_;exact iB2 h
 refine Qi Qmd ?_;apply iU h <;> intro h
 ·refine Qi Qmd ?_;exact iB2 h
 refine Qi Qmd ?_;exact iB2 h
def Zc (N : Nat) (c : Q4) : Option ((Unit) × Q4) :=
 (Q10 N c.m.Flags).bind fun v1 =>
 cond (Q3 .eql c.do' 2)
 (some ((), c))
 (cond (Q3 .eql c.do' 0)
 ((Vy N []).bind fun v5 =>
 some ((), c))
 (cond (Q3 .eql c.do' 1)
 ((Qo N (wrap .u64 v1.1) 1).bind fun v8 =>
 cond (!(Nat.beq v8.length 0)) (cond (Nat.ble ((c.out.length + v8.length + 4096) * 1) 17592186044416) (some ((), (⟨c.do', c.m, (c.out ++ (v8.map fun b => (b.toNat : Int))), c.bad⟩ : Q4))) none) none)
 (cond c.bad
 (some ((), (⟨c.do', c.m, c.out, true⟩ : Q4)))
 (cond (Q3 .lss v1.1 0)
 (some ((), (⟨c.do', c.m, c.out, true⟩ : Q4)))
 (some ((), (⟨c.do', c.m, c.out, (Q3 .geq v1.1 (Gy .i64 1 8))⟩ : Q4)))))))
theorem Yt {N} {c} {r} (h : Zc N c = some r) : gU 273 (.ptr 0 0 :: []) (.cells (Jr c 1) :: .cells (Qu (cI .u8) c.out) :: []) (.tuple []) (.cells (Jr r.2 2) :: .dead :: .cells (Qu (cI .u8) r.2.out) :: []) := by
 refine X2 Z8q (Lo rfl) ?_;unfold Zc at h;rw [cX] at h;refine cP h Q7w (.cons (Frz.agg' (.cons (.p _) p5)) .nil) fun v1 h => ?_;apply iU h <;> intro h
 ·obtain rfl := Qd h;show Exists _;exact ⟨(rho [0, 1, 1]), Z6⟩
 refine Qi Qw7 ?_;refine ifO h (fun hc4 h => ?_) (fun hc4 h => ?_)
 ·refine Qi Qxx ?_;refine Qi Qvf ?_;refine Qi Qq3 ?_;refine cP h Vc p1 fun v5 h => ?_;refine ifT hc4 ?_;refine Qi Z6s ?_;refine dF ?_;obtain rfl := Qd h;show Exists _;exact ⟨(rho [0, 1, 1]), Z6⟩
 apply iU h <;> intro h
 ·refine Qa ?_;refine cD h Qh p2 fun v8 h => ?_;refine Q41 (b := v8) ?_;obtain ⟨hk10, h⟩ := Q4u h;refine ifF (Qlr hk10) ?_;obtain ⟨hk11, h⟩ := Q4u h;refine Js (Xe (c := (cI .u8)) (e := 1) (l := c.out) (fun _ => rfl) sd hk11) ?_;refine Uy (c := (cI .u8)) (l := c.out) (v8.map fun b => (b.toNat : Int)) rfl ?_;refine ifF hc4 ?_;obtain rfl := Qd h;show Exists _;exact ⟨(rho [0, 1, 3]), Z6⟩
 refine Qa ?_;apply iU h <;> intro h
 ·refine ifF hc4 ?_;obtain rfl := Qd h;show Exists _;exact ⟨(rho [0, 1, 1]), Z6⟩
 apply iU h <;> intro h
 ·refine ifF hc4 ?_;obtain rfl := Qd h;show Exists _;exact ⟨(rho [0, 1, 1]), Z6⟩
 refine ifF hc4 ?_;obtain rfl := Qd h;show Exists _;exact ⟨(rho [0, 1, 1]), Z6⟩
def Yu (N : Nat) (c : Q4) : Option ((Unit) × Q4) :=
 cond (Q3 .eql c.do' 0)
 ((Vy N []).bind fun v2 =>
 cond (Q3 .neq (wrap .i64 v2) 1)
 (some ((), c))
 (some ((), c)))
 (cond (Q3 .eql c.do' 1)
 ((Qo N (wrap .u64 1) 1).bind fun v6 =>
 cond (!(Nat.beq v6.length 0)) (cond (Nat.ble ((c.out.length + v6.length + 4096) * 1) 17592186044416) (some ((), (⟨c.do', c.m, (c.out ++ (v6.map fun b => (b.toNat : Int))), c.bad⟩ : Q4))) none) none)
 (cond c.bad
 (some ((), (⟨c.do', c.m, c.out, true⟩ : Q4)))
 (some ((), (⟨c.do', c.m, c.out, (Q3 .geq 1 (Gy .i64 1 8))⟩ : Q4)))))
theorem Q6j {N} {c} {r} (h : Yu N c = some r) : gU 274 (.ptr 0 0 :: []) (.cells (Jr c 1) :: .cells (Qu (cI .u8) c.out) :: []) (.tuple []) (.cells (Jr r.2 2) :: .dead :: .cells (Qu (cI .u8) r.2.out) :: []) := by
 refine X2 Z86 (Lo rfl) ?_;unfold Yu at h;rw [cX] at h;refine Qi Qw7 ?_;refine ifO h (fun hc1 h => ?_) (fun hc1 h => ?_)
 ·refine Qi Qxx ?_;refine Qi Qvf ?_;refine Qi Qq3 ?_;refine cP h Vc p1 fun v2 h => ?_;refine ifT hc1 ?_;apply iU h <;> intro h
  ·refine Qi Z3r ?_;refine Qi Qq3 ?_;obtain rfl := Qd h;show Exists _;exact ⟨(rho [0, 1, 1]), Z6⟩
  obtain rfl := Qd h;show Exists _;exact ⟨(rho [0, 1, 1]), Z6⟩
 apply iU h <;> intro h
 ·refine Qa ?_;refine cD h Qh p2 fun v6 h => ?_;refine Q41 (b := v6) ?_;obtain ⟨hk8, h⟩ := Q4u h;refine ifF (Qlr hk8) ?_;obtain ⟨hk9, h⟩ := Q4u h;refine Js (Xe (c := (cI .u8)) (e := 1) (l := c.out) (fun _ => rfl) sd hk9) ?_;refine Uy (c := (cI .u8)) (l := c.out) (v6.map fun b => (b.toNat : Int)) rfl ?_;refine ifF hc1 ?_;obtain rfl := Qd h;show Exists _;exact ⟨(rho [0, 1, 3]), Z6⟩
 refine Qa ?_;apply iU h <;> intro h
 ·refine ifF hc1 ?_;obtain rfl := Qd h;show Exists _;exact ⟨(rho [0, 1, 1]), Z6⟩
 refine dF ?_;refine ifF hc1 ?_;obtain rfl := Qd h;show Exists _;exact ⟨(rho [0, 1, 1]), Z6⟩
end
end
end Go.Av
