/- Part of the proof of EventCopies: for every input the law returns true; no condition. -/
import Derived.Test.YtnbdhlnkhdhohaaGreatDoorLiftF2
namespace Go.Av
open Go.IntKind (wrap)
noncomputable section
open Go.Proofs
set_option maxRecDepth 100000
set_option maxHeartbeats 4000000
attribute [local irreducible] Vn Xj Q89 Qcy Qry Qrt Qh8
section
def Xi (N : Nat) (parts : List (List UInt8)) : Option (List UInt8) :=
 (Qa2 N parts []).bind fun v1 =>
 some v1
theorem Xb {N} {parts} {r} (h : Xi N parts = some r) : pU 188 [.slice 1 (Q8 cS parts)] (.str r) := by
 refine Q2 Z60 ?_;unfold Xi at h;refine cP h Qcw p2 fun v1 h => ?_;cases h; exact (.p _)
def Yd (N : Nat) (p : Q9) : Nat → Int → Int → Option Int
 | 0, _, _ => none
 | n + 1, out9, s10 =>
  cond (Q3 .lss s10 5)
  ((idx ([(⟨p.Clean, 2⟩ : Q4y), (⟨p.HasWill, 4⟩ : Q4y), (⟨p.Will.Retain, 32⟩ : Q4y), (⟨p.HasPass, 64⟩ : Q4y), (⟨p.HasUser, 128⟩ : Q4y)] : List Q4y) s10).bind fun y12 =>
  cond y12.is
  (Yd N p n (orI .i64 out9 y12.bit) (wrap .i64 (s10 + 1)))
  (Yd N p n out9 (wrap .i64 (s10 + 1))))
  (some out9)
def Q01 (N : Nat) (p : Q9) : Option Int :=
 cond (Q3 .neq p.Kind 1)
 (some 0)
 (Yd N p N (Gy .i64 (Jq .i64 p.Will.QoS 3) 3) 0)
theorem Qbr {N} {p} {r} (h : Q01 N p = some r) : pU 189 [.agg (Q9.cells p)] (.int .i64 r) := by
 refine Q2 Z5z ?_;unfold Q01 at h;rw [cX] at h;refine iL h fun h => ?_;refine lpH (τ := Int × Int) (fun ⟨out9, s10⟩ => (a2 (.any :: iI out9 :: a16 (a8 (a2 (.slice 2 1 0 5 :: iI 5 :: iI s10 :: a8 (a2 (.any :: [])))))) : List AV)) (fun n0 ⟨out9, s10⟩ => Yd N p n0 out9 s10) ((Gy .i64 (Jq .i64 p.Will.QoS 3) 3), 0) h fun n0 ⟨out9, s10⟩ h => ?_
 first | rw [Yd] at h | simp only [Yd] at h
 rw [cX] at h;refine iR h fun h => ?_;obtain ⟨y12, hy13, h⟩ := U1 h;refine Js (Uz hy13 sd) ?_
 refine Q32 (c := Q4y.cells) (e := 2) (fun _ => rfl) hy13 (off := 0) (by decide) (by first | omega | (simp only [Jq, orI, Qc7, W8, Gy, Q4m]; omega)) ?_
 apply iU h <;> intro h
 ·show Exists _;exact ⟨(n0, (orI .i64 out9 y12.bit), (wrap .i64 (s10 + 1))), h, Le _, (fun i => i), Z6⟩
 show Exists _;exact ⟨(n0, out9, (wrap .i64 (s10 + 1))), h, Le _, (fun i => i), Z6⟩
def Xc (N : Nat) (s_0 : List UInt8) : Option (List UInt8) :=
 (J4 N s_0).bind fun v1 =>
 some v1.1
theorem Xf {N} {s_0} {r} (h : Xc N s_0 = some r) : pU 190 [.str s_0] (.str r) := by
 refine Q2 Ze0 ?_;unfold Xc at h;refine cP h Q27 p1 fun v1 h => ?_;cases h; exact (.p _)
def Q1j (N : Nat) (version : Int) (p : Q9) : Option ((List UInt8) × Int) :=
 (Q0j N version p).bind fun v1 =>
 cond (Q3 .neq v1 0)
 (some ([], v1))
 ((Gr N version p.Kind p.Props).bind fun v4 =>
 cond (Q3 .eql p.Kind 2)
 (cond p.Session
 ((Qo N (wrap .u64 p.Code) 1).bind fun v8 =>
 (Xi N [[1], v8, v4]).bind fun v10 =>
 some (v10, 0))
 ((Qo N (wrap .u64 p.Code) 1).bind fun v12 =>
 (Xi N [[0], v12, v4]).bind fun v14 =>
 some (v14, 0)))
 ((Qo N (wrap .u64 version) 1).bind fun v16 =>
 (Q01 N p).bind fun v18 =>
 (Qo N (wrap .u64 v18) 1).bind fun v20 =>
 (Qo N (wrap .u64 p.KeepAlive) 2).bind fun v22 =>
 (Xc N p.Client).bind fun v24 =>
 (Xi N [[0, 4, 77, 81, 84, 84], v16, v20, v22, v4, v24]).bind fun v26 =>
 cond p.HasWill
 ((Gr N version 16 p.Will.Props).bind fun v29 =>
 (Xc N p.Will.Topic).bind fun v31 =>
 (Xc N p.Will.Payload).bind fun v33 =>
 (Xi N [v26, v29, v31, v33]).bind fun v35 =>
 cond p.HasUser
 ((Xc N p.User).bind fun v38 =>
 (Xi N [v35, v38]).bind fun v40 =>
 cond p.HasPass
 ((Xc N p.Pass).bind fun v43 =>
 (Xi N [v40, v43]).bind fun v45 =>
 some (v45, 0))
 (some (v40, 0)))
 (cond p.HasPass
 ((Xc N p.Pass).bind fun v48 =>
 (Xi N [v35, v48]).bind fun v50 =>
 some (v50, 0))
 (some (v35, 0))))
 (cond p.HasUser
 ((Xc N p.User).bind fun v53 =>
 (Xi N [v26, v53]).bind fun v55 =>
 cond p.HasPass
 ((Xc N p.Pass).bind fun v58 =>
 (Xi N [v55, v58]).bind fun v60 =>
 some (v60, 0))
 (some (v55, 0)))
 (cond p.HasPass
 ((Xc N p.Pass).bind fun v63 =>
 (Xi N [v26, v63]).bind fun v65 =>
 some (v65, 0))
 (some (v26, 0))))))
theorem Qdi {N} {version} {p} {r} (h : Q1j N version p = some r) : pU 157 [.int .i64 version, .agg (Q9.cells p)] (.tuple [.str r.1, .int .i64 r.2]) := by
 refine Q2 Zaq ?_;unfold Q1j at h;rw [cX] at h;refine cP h Qbh (.cons (.p _) (.cons (Frz.agg' (Yj (f2_ (f1_ (.cons (.p _) p5))))) .nil)) fun v1 h => ?_;refine iL2 h fun h => ?_;refine cP h Q72 p3 fun v4 h => ?_;apply iU h <;> intro h
 ·apply iU h <;> intro h
  ·refine cP h Qh p2 fun v8 h => ?_;refine cK h Xb (.cons (frz_own (c := cS) (l := ([[1], v8, v4] : List (List UInt8))) (fun _ => rfl) rfl trivial sd) .nil) fun v10 h => ?_;obtain rfl := Qd h; exact u2
  refine cP h Qh p2 fun v12 h => ?_;refine cK h Xb (.cons (frz_own (c := cS) (l := ([[0], v12, v4] : List (List UInt8))) (fun _ => rfl) rfl trivial sd) .nil) fun v14 h => ?_;obtain rfl := Qd h; exact u2
 refine Qa ?_;refine cD h Qh p2 fun v16 h => ?_;refine cD h Qbr (.cons (Frz.agg' (Yj (f2_ (f1_ (.cons (.p _) p5))))) .nil) fun v18 h => ?_;refine cD h Qh p2 fun v20 h => ?_;refine cD h Qh p2 fun v22 h => ?_;refine cD h Xf p1 fun v24 h => ?_;refine dL h Xb [1] (.cons (frz_own (c := cS) (l := ([[0, 4, 77, 81, 84, 84], v16, v20, v22, v4, v24] : List (List UInt8))) (fun _ => rfl) rfl (by simp) sd) .nil) fun v26 h => ?_;apply iU h <;> intro h
 ·refine Qa ?_;refine cD h Q72 p3 fun v29 h => ?_;refine cD h Xf p1 fun v31 h => ?_;refine cD h Xf p1 fun v33 h => ?_;refine dL h Xb [2] (.cons (frz_own (c := cS) (l := ([v26, v29, v31, v33] : List (List UInt8))) (fun _ => rfl) rfl (by simp) sd) .nil) fun v35 h => ?_;apply iU h <;> intro h
  ·refine cP h Xf p1 fun v38 h => ?_;refine cK h Xb (.cons (frz_own (c := cS) (l := ([v35, v38] : List (List UInt8))) (fun _ => rfl) rfl trivial sd) .nil) fun v40 h => ?_;refine iR2 h fun h => ?_;refine cP h Xf p1 fun v43 h => ?_;refine cK h Xb (.cons (frz_own (c := cS) (l := ([v40, v43] : List (List UInt8))) (fun _ => rfl) rfl trivial sd) .nil) fun v45 h => ?_;obtain rfl := Qd h; exact u2
  refine iR2 h fun h => ?_;refine cP h Xf p1 fun v48 h => ?_;refine cK h Xb (.cons (frz_own (c := cS) (l := ([v35, v48] : List (List UInt8))) (fun _ => rfl) rfl trivial sd) .nil) fun v50 h => ?_;obtain rfl := Qd h; exact u2
 apply iU h <;> intro h
 ·refine cP h Xf p1 fun v53 h => ?_;refine cK h Xb (.cons (frz_own (c := cS) (l := ([v26, v53] : List (List UInt8))) (fun _ => rfl) rfl trivial sd) .nil) fun v55 h => ?_;refine iR2 h fun h => ?_;refine cP h Xf p1 fun v58 h => ?_;refine cK h Xb (.cons (frz_own (c := cS) (l := ([v55, v58] : List (List UInt8))) (fun _ => rfl) rfl trivial sd) .nil) fun v60 h => ?_;obtain rfl := Qd h; exact u2
 refine iR2 h fun h => ?_;refine cP h Xf p1 fun v63 h => ?_;refine cK h Xb (.cons (frz_own (c := cS) (l := ([v26, v63] : List (List UInt8))) (fun _ => rfl) rfl trivial sd) .nil) fun v65 h => ?_;obtain rfl := Qd h; exact u2
def Wk (N : Nat) (d : Z9) : Option ((List UInt8) × Int) :=
 (Q1j N d.version d.p).bind fun v1 =>
 some (v1.1, v1.2)
theorem Q30 {N} {d} {r} (h : Wk N d = some r) : pU 122 [.agg (Z9.cells d)] (.tuple [.str r.1, .int .i64 r.2]) := by
 refine Q2 Zfy ?_;unfold Wk at h;refine cP h Qdi (.cons (.p _) (.cons (Frz.agg' (Yj (f2_ (f1_ (.cons (.p _) p5))))) .nil)) fun v1 h => ?_;obtain rfl := Qd h; exact u2
def Q5l (_N : Nat) (version : Int) (kind : Int) : Option Bool :=
 cond (Q3 .eql version 4)
 (cond (Q3 .geq kind 4)
 (some (Q3 .leq kind 7))
 (some false))
 (cond (Q3 .eql version 5)
 (cond (Q3 .geq kind 4)
 (some (Q3 .leq kind 7))
 (some false))
 (some false))
theorem Qgt {N} {version} {kind} {r} (h : Q5l N version kind = some r) : pU 200 [.int .i64 version, .int .i64 kind] (.bool r) := by
 refine Q2 Zbd ?_;unfold Q5l at h;rw [cX] at h;apply iU h <;> intro h
 ·exact iB h
 refine iR h fun h => ?_;exact iB h
def Q5q (N : Nat) (version : Int) (p : Q9) : Option Int :=
 (Q5l N version p.Kind).bind fun v1 =>
 cond (!v1)
 (some 2)
 (cond (Q3 .leq p.ID 0)
 (some 2)
 (cond (Q3 .geq p.ID 65536)
 (some 2)
 ((G7 N p.Kind p.Code).bind fun v6 =>
 cond (!v6)
 (some 2)
 (cond (Q3 .eql version 4)
 (cond (Q3 .neq p.Code 0)
 (some 2)
 (cond (Q3 .neq ((Q8 Qc.cells p.Props).length : Int) 0)
 (some 2)
 ((Za N p (⟨p.Kind, false, false, 0, p.ID, [], [], false, 0, [], false, [], false, [], false, (⟨[], [], 0, false, []⟩ : Q0y), false, p.Code, [], [], p.Props⟩ : Q9)).bind fun v12 =>
 cond (!v12)
 (some 2)
 ((Zy N p.Kind p.Props).bind fun v15 =>
 some v15))))
 ((Za N p (⟨p.Kind, false, false, 0, p.ID, [], [], false, 0, [], false, [], false, [], false, (⟨[], [], 0, false, []⟩ : Q0y), false, p.Code, [], [], p.Props⟩ : Q9)).bind fun v17 =>
 cond (!v17)
 (some 2)
 ((Zy N p.Kind p.Props).bind fun v20 =>
 some v20))))))
theorem Qgu {N} {version} {p} {r} (h : Q5q N version p = some r) : pU 199 [.int .i64 version, .agg (Q9.cells p)] (.int .i64 r) := by
 refine Q2 Z5h ?_;unfold Q5q at h;rw [cX] at h;refine cP h Qgt p2 fun v1 h => ?_;refine iL h fun h => ?_;refine iL h fun h => ?_;refine iL h fun h => ?_;refine cP h Q0o p2 fun v6 h => ?_;refine iL h fun h => ?_;apply iU h <;> intro h
 ·refine iL h fun h => ?_;refine iL h fun h => ?_;refine cP h Qv (.cons (Frz.agg' (Yj (f2_ (f1_ (.cons (.p _) p5))))) (.cons (Frz.agg' (Yj (f2_ (f1_ (.cons (.nil _) (f2_ (.cons (.nil _) (.cons (.nil _) p1)))))))) .nil)) fun v12 h => ?_;refine iL h fun h => ?_;refine cP h Yk p2 fun v15 h => ?_;cases h; exact (.p _)
 refine cP h Qv (.cons (Frz.agg' (Yj (f2_ (f1_ (.cons (.p _) p5))))) (.cons (Frz.agg' (Yj (f2_ (f1_ (.cons (.nil _) (f2_ (.cons (.nil _) (.cons (.nil _) p1)))))))) .nil)) fun v17 h => ?_;refine iL h fun h => ?_;refine cP h Yk p2 fun v20 h => ?_;cases h; exact (.p _)
def Q6t (N : Nat) (version : Int) (p : Q9) : Option ((List UInt8) × Int) :=
 (Q5q N version p).bind fun v1 =>
 cond (Q3 .neq v1 0)
 (some ([], v1))
 ((Qo N (wrap .u64 p.ID) 2).bind fun v4 =>
 cond (Q3 .neq p.Code 0)
 ((Qo N (wrap .u64 p.Code) 1).bind fun v7 =>
 cond (Nat.ble (v4.length + v7.length) 4611686018427387904) (cond (Q3 .neq ((Q8 Qc.cells p.Props).length : Int) 0)
 ((Wm N p.Kind p.Props).bind fun v11 =>
 cond (Nat.ble ((v4 ++ v7).length + v11.1.length) 4611686018427387904) (some (((v4 ++ v7) ++ v11.1), 0)) none)
 (some ((v4 ++ v7), 0))) none)
 (cond (Q3 .neq ((Q8 Qc.cells p.Props).length : Int) 0)
 ((Qo N (wrap .u64 p.Code) 1).bind fun v15 =>
 cond (Nat.ble (v4.length + v15.length) 4611686018427387904) ((Wm N p.Kind p.Props).bind fun v18 =>
 cond (Nat.ble ((v4 ++ v15).length + v18.1.length) 4611686018427387904) (some (((v4 ++ v15) ++ v18.1), 0)) none) none)
 (some (v4, 0))))
theorem Qjm {N} {version} {p} {r} (h : Q6t N version p = some r) : pU 159 [.int .i64 version, .agg (Q9.cells p)] (.tuple [.str r.1, .int .i64 r.2]) := by
 refine Q2 Zdq ?_;unfold Q6t at h;rw [cX] at h;refine cP h Qgu (.cons (.p _) (.cons (Frz.agg' (Yj (f2_ (f1_ (.cons (.p _) p5))))) .nil)) fun v1 h => ?_;refine iL2 h fun h => ?_;refine cP h Qh p2 fun v4 h => ?_;apply iU h <;> intro h
 ·refine cP h Qh p2 fun v7 h => ?_;refine kU h fun h => ?_;refine iR2 h fun h => ?_;refine cP h Ve p2 fun v11 h => ?_;refine kU h fun h => ?_;obtain rfl := Qd h; exact u2
 refine ifO h (fun hc14 h => ?_) (fun hc14 h => ?_)
 ·refine cP h Qh p2 fun v15 h => ?_;refine kU h fun h => ?_;refine ifT hc14 ?_;refine cP h Ve p2 fun v18 h => ?_;refine kU h fun h => ?_;obtain rfl := Qd h; exact u2
 refine ifF hc14 ?_;obtain rfl := Qd h; exact u2
def Wo (N : Nat) (d : Z9) : Option ((List UInt8) × Int) :=
 (Q6t N d.version d.p).bind fun v1 =>
 some (v1.1, v1.2)
theorem Ga {N} {d} {r} (h : Wo N d = some r) : pU 124 [.agg (Z9.cells d)] (.tuple [.str r.1, .int .i64 r.2]) := by
 refine Q2 Z6a ?_;unfold Wo at h;refine cP h Qjm (.cons (.p _) (.cons (Frz.agg' (Yj (f2_ (f1_ (.cons (.p _) p5))))) .nil)) fun v1 h => ?_;obtain rfl := Qd h; exact u2
def Wz (_N : Nat) (kind : Int) : Option Bool :=
 cond (Q3 .eql kind 8)
 (some true)
 (some (Q3 .eql kind 10))
theorem Q3g {N} {kind} {r} (h : Wz N kind = some r) : pU 250 [.int .i64 kind] (.bool r) := by
 refine Q2 Z5k ?_;unfold Wz at h;rw [cX] at h;exact iB h
def Vs (_N : Nat) (version : Int) (kind : Int) : Option Bool :=
 cond (Q3 .eql kind 11)
 (some (Q3 .eql version 4))
 (some false)
theorem Q48 {N} {version} {kind} {r} (h : Vs N version kind = some r) : pU 294 [.int .i64 version, .int .i64 kind] (.bool r) := by
 refine Q2 Zbj ?_;unfold Vs at h;rw [cX] at h;exact iB h
def Ja (N : Nat) (version : Int) (p : Q9) : Option Bool :=
 cond (Q3 .lss p.ID 1)
 (some false)
 (cond (Q3 .gtr p.ID 65535)
 (some false)
 (cond (Q3 .eql version 4)
 (cond (Q3 .gtr ((Q8 Qc.cells p.Props).length : Int) 0)
 (some false)
 ((Wz N p.Kind).bind fun v5 =>
 cond v5
 (cond (Q3 .gtr ((Q8 Qe.cells p.Filters).length : Int) 0)
 ((Za N p (⟨p.Kind, false, false, 0, p.ID, [], [], false, 0, [], false, [], false, [], false, (⟨[], [], 0, false, []⟩ : Q0y), false, 0, [], p.Filters, p.Props⟩ : Q9)).bind fun v9 =>
 some v9)
 (some false))
 ((Vs N version p.Kind).bind fun v11 =>
 cond v11
 ((Za N p (⟨p.Kind, false, false, 0, p.ID, [], [], false, 0, [], false, [], false, [], false, (⟨[], [], 0, false, []⟩ : Q0y), false, 0, [], [], p.Props⟩ : Q9)).bind fun v14 =>
 some v14)
 (cond (Q3 .gtr ((Q8 (cI .i64) p.Codes).length : Int) 0)
 ((Za N p (⟨p.Kind, false, false, 0, p.ID, [], [], false, 0, [], false, [], false, [], false, (⟨[], [], 0, false, []⟩ : Q0y), false, 0, p.Codes, [], p.Props⟩ : Q9)).bind fun v17 =>
 some v17)
 (some false)))))
 ((Wz N p.Kind).bind fun v19 =>
 cond v19
 (cond (Q3 .gtr ((Q8 Qe.cells p.Filters).length : Int) 0)
 ((Za N p (⟨p.Kind, false, false, 0, p.ID, [], [], false, 0, [], false, [], false, [], false, (⟨[], [], 0, false, []⟩ : Q0y), false, 0, [], p.Filters, p.Props⟩ : Q9)).bind fun v23 =>
 some v23)
 (some false))
 ((Vs N version p.Kind).bind fun v25 =>
 cond v25
 ((Za N p (⟨p.Kind, false, false, 0, p.ID, [], [], false, 0, [], false, [], false, [], false, (⟨[], [], 0, false, []⟩ : Q0y), false, 0, [], [], p.Props⟩ : Q9)).bind fun v28 =>
 some v28)
 (cond (Q3 .gtr ((Q8 (cI .i64) p.Codes).length : Int) 0)
 ((Za N p (⟨p.Kind, false, false, 0, p.ID, [], [], false, 0, [], false, [], false, [], false, (⟨[], [], 0, false, []⟩ : Q0y), false, 0, p.Codes, [], p.Props⟩ : Q9)).bind fun v31 =>
 some v31)
 (some false))))))
theorem Q8c {N} {version} {p} {r} (h : Ja N version p = some r) : pU 244 [.int .i64 version, .agg (Q9.cells p)] (.bool r) := by
 refine Q2 Zc7 ?_;unfold Ja at h;rw [cX] at h;refine iL h fun h => ?_;refine iL h fun h => ?_;apply iU h <;> intro h
 ·refine iL h fun h => ?_;refine cP h Q3g p1 fun v5 h => ?_;apply iU h <;> intro h
  ·refine iR h fun h => ?_;refine cP h Qv (.cons (Frz.agg' (Yj (f2_ (f1_ (.cons (.p _) p5))))) (.cons (Frz.agg' (Yj (f2_ (f1_ (.cons (.nil _) (f2_ (.cons (.nil _) p2))))))) .nil)) fun v9 h => ?_;cases h; exact (.p _)
  refine cP h Q48 p2 fun v11 h => ?_;apply iU h <;> intro h
  ·refine cP h Qv (.cons (Frz.agg' (Yj (f2_ (f1_ (.cons (.p _) p5))))) (.cons (Frz.agg' (Yj (f2_ (f1_ (.cons (.nil _) (f2_ (.cons (.nil _) (.cons (.nil _) p1)))))))) .nil)) fun v14 h => ?_;cases h; exact (.p _)
  refine iR h fun h => ?_;refine cP h Qv (.cons (Frz.agg' (Yj (f2_ (f1_ (.cons (.p _) p5))))) (.cons (Frz.agg' (Yj (f2_ (f1_ (.cons (.nil _) (f2_ (f1_ (.cons (.nil _) p1)))))))) .nil)) fun v17 h => ?_;cases h; exact (.p _)
 refine cP h Q3g p1 fun v19 h => ?_;apply iU h <;> intro h
 ·refine iR h fun h => ?_;refine cP h Qv (.cons (Frz.agg' (Yj (f2_ (f1_ (.cons (.p _) p5))))) (.cons (Frz.agg' (Yj (f2_ (f1_ (.cons (.nil _) (f2_ (.cons (.nil _) p2))))))) .nil)) fun v23 h => ?_;cases h; exact (.p _)
 refine cP h Q48 p2 fun v25 h => ?_;apply iU h <;> intro h
 ·refine cP h Qv (.cons (Frz.agg' (Yj (f2_ (f1_ (.cons (.p _) p5))))) (.cons (Frz.agg' (Yj (f2_ (f1_ (.cons (.nil _) (f2_ (.cons (.nil _) (.cons (.nil _) p1)))))))) .nil)) fun v28 h => ?_;cases h; exact (.p _)
 refine iR h fun h => ?_;refine cP h Qv (.cons (Frz.agg' (Yj (f2_ (f1_ (.cons (.p _) p5))))) (.cons (Frz.agg' (Yj (f2_ (f1_ (.cons (.nil _) (f2_ (f1_ (.cons (.nil _) p1)))))))) .nil)) fun v31 h => ?_;cases h; exact (.p _)
def X3 (_N : Nat) (s_0 : List UInt8) (prefix_1 : List UInt8) : Option Bool :=
 cond (Q3 .geq (s_0.length : Int) (prefix_1.length : Int))
 (cond (Nat.ble 0 prefix_1.length && Nat.ble prefix_1.length s_0.length) (some (Q4s .eql ((s_0.take prefix_1.length).drop 0) prefix_1)) none)
 (some false)
theorem Q25 {N} {s_0} {prefix_1} {r} (h : X3 N s_0 prefix_1 = some r) : pU 352 [.str s_0, .str prefix_1] (.bool r) := by
 refine Q2 Zak ?_;unfold X3 at h;rw [cX, cY] at h;refine iR h fun h => ?_;refine kU h fun h => ?_;cases h; exact (.p _)
def X4 (N : Nat) (s_0 : List UInt8) (prefix_1 : List UInt8) : Option ((List UInt8) × Bool) :=
 (X3 N s_0 prefix_1).bind fun v1 =>
 cond (!v1)
 (some (s_0, false))
 (cond (Nat.ble prefix_1.length s_0.length && Nat.ble s_0.length s_0.length) (some (((s_0.take s_0.length).drop prefix_1.length), true)) none)
theorem Q28 {N} {s_0} {prefix_1} {r} (h : X4 N s_0 prefix_1 = some r) : pU 342 [.str s_0, .str prefix_1] (.tuple [.str r.1, .bool r.2]) := by
 refine Q2 Zb2 ?_;unfold X4 at h;refine cP h Q25 p2 fun v1 h => ?_;refine iL2 h fun h => ?_;refine kU h fun h => ?_;obtain rfl := Qd h; exact u2
def Ui (N : Nat) (s_0 : List UInt8) (prefix_1 : List UInt8) : Option ((List UInt8) × Bool) :=
 (X4 N s_0 prefix_1).bind fun v1 =>
 some (v1.1, v1.2)
theorem Q85 {N} {s_0} {prefix_1} {r} (h : Ui N s_0 prefix_1 = some r) : pU 323 [.str s_0, .str prefix_1] (.tuple [.str r.1, .bool r.2]) := by
 refine Q2 Z8s ?_;unfold Ui at h;refine cP h Q28 p2 fun v1 h => ?_;obtain rfl := Qd h; exact u2
def Q1s (N : Nat) (s_0 : List UInt8) : Option ((List UInt8) × (List UInt8) × Bool) :=
 (Ui N s_0 [36, 115, 104, 97, 114, 101, 47]).bind fun v1 =>
 cond (Q4s .eql [47] v1.1)
 (cond (Nat.ble 1 v1.1.length && Nat.ble v1.1.length v1.1.length) (cond (!v1.2)
 (some ([], [], false))
 ((Z5 N s_0).bind fun v6 =>
 cond (!v6)
 (some ([], [], false))
 ((Zf N ((v1.1.take 0).drop 0)).bind fun v9 =>
 cond (!v9)
 (some ([], [], false))
 ((Xr N ((v1.1.take v1.1.length).drop 1)).bind fun v12 =>
 cond (!v12)
 (some ([], [], false))
 (some (((v1.1.take 0).drop 0), ((v1.1.take v1.1.length).drop 1), true)))))) none)
 ((Qt N v1.1 47).bind fun v15 =>
 cond (Q3 .geq v15 0)
 (cond (decide (0 ≤ v15)) (cond (Nat.ble 0 v15.toNat && Nat.ble v15.toNat v1.1.length) (cond (decide (0 ≤ (wrap .i64 (v15 + 1)))) (cond (Nat.ble (wrap .i64 (v15 + 1)).toNat v1.1.length && Nat.ble v1.1.length v1.1.length) (cond (!v1.2)
 (some ([], [], false))
 ((Z5 N s_0).bind fun v23 =>
 cond (!v23)
 (some ([], [], false))
 ((Zf N ((v1.1.take v15.toNat).drop 0)).bind fun v26 =>
 cond (!v26)
 (some ([], [], false))
 ((Xr N ((v1.1.take v1.1.length).drop ((wrap .i64 (v15 + 1)).toNat))).bind fun v29 =>
 cond (!v29)
 (some ([], [], false))
 (some (((v1.1.take v15.toNat).drop 0), ((v1.1.take v1.1.length).drop ((wrap .i64 (v15 + 1)).toNat)), true)))))) none) none) none) none)
 (cond (!v1.2)
 (some ([], [], false))
 (some ([], [], false))))
theorem Qd0 {N} {s_0} {r} (h : Q1s N s_0 = some r) : pU 296 [.str s_0] (.tuple [.str r.1, .str r.2.1, .bool r.2.2]) := by
 refine Q2 Z8k ?_;unfold Q1s at h;rw [cX, cY] at h;refine cP h Q85 p2 fun v1 h => ?_;refine Qi Zg4 ?_;refine Qi Z97 ?_;refine Qi Z4g ?_;refine dF ?_;apply iU h <;> intro h
 ·refine dT ?_;refine Qa ?_;refine kU h fun h => ?_;apply iU h <;> intro h
  ·obtain rfl := Qd h; exact u3
  refine cP h Zq p1 fun v6 h => ?_;apply iU h <;> intro h
  ·obtain rfl := Qd h; exact u3
  refine cP h Ym p1 fun v9 h => ?_;apply iU h <;> intro h
  ·obtain rfl := Qd h; exact u3
  refine cP h G0 p1 fun v12 h => ?_;apply iU h <;> intro h
  ·obtain rfl := Qd h; exact u3
  obtain rfl := Qd h; exact u3
 refine dT ?_;refine cP h Xy p2 fun v15 h => ?_;apply iU h <;> intro h
 ·refine Qa ?_;refine kU h fun h => ?_;refine kU h fun h => ?_;refine kU h fun h => ?_;refine kU h fun h => ?_;apply iU h <;> intro h
  ·obtain rfl := Qd h; exact u3
  refine cP h Zq p1 fun v23 h => ?_;apply iU h <;> intro h
  ·obtain rfl := Qd h; exact u3
  refine cP h Ym p1 fun v26 h => ?_;apply iU h <;> intro h
  ·obtain rfl := Qd h; exact u3
  refine cP h G0 p1 fun v29 h => ?_;apply iU h <;> intro h
  ·obtain rfl := Qd h; exact u3
  obtain rfl := Qd h; exact u3
 apply iU h <;> intro h
 ·obtain rfl := Qd h; exact u3
 obtain rfl := Qd h; exact u3
def V4 (_N : Nat) (n_0 : Int) : Option Bool :=
 cond (Q3 .geq n_0 0)
 (some (Q3 .lss n_0 3))
 (some false)
theorem Q1e {N} {n_0} {r} (h : V4 N n_0 = some r) : pU 295 [.int .i64 n_0] (.bool r) := by
 refine Q2 Z87 ?_;unfold V4 at h;rw [cX] at h;exact iB h
def Uq (N : Nat) (version : Int) (kind : Int) (f : Qe) : Option Bool :=
 cond (Q3 .eql kind 10)
 (cond (((f.Topic : List UInt8) == f.Topic) && (((f.QoS : Int) == f.QoS) && (((f.NoLocal : Bool) == false) && (((f.AsPublished : Bool) == false) && (((f.Handling : Int) == 0) && true)))))
 (some (Q3 .eql f.QoS 0))
 (some false))
 (cond (Q3 .eql version 4)
 (cond (((f.Topic : List UInt8) == f.Topic) && (((f.QoS : Int) == f.QoS) && (((f.NoLocal : Bool) == false) && (((f.AsPublished : Bool) == false) && (((f.Handling : Int) == 0) && true)))))
 ((V4 N f.QoS).bind fun v5 =>
 some v5)
 (some false))
 ((Q1s N f.Topic).bind fun v7 =>
 (V4 N f.QoS).bind fun v9 =>
 cond v9
 ((V4 N f.Handling).bind fun v12 =>
 cond v12
 (cond v7.2.2
 (some (!f.NoLocal))
 (some true))
 (some false))
 (some false)))
theorem Q81 {N} {version} {kind} {f} {r} (h : Uq N version kind f = some r) : pU 245 [.int .i64 version, .int .i64 kind, .agg (Qe.cells f)] (.bool r) := by
 refine Q2 Z8f ?_;unfold Uq at h;rw [cX] at h;apply iU h <;> intro h
 ·exact iB h
 apply iU h <;> intro h
 ·refine iR h fun h => ?_;refine cP h Q1e p1 fun v5 h => ?_;cases h; exact (.p _)
 refine cP h Qd0 p1 fun v7 h => ?_;refine cP h Q1e p1 fun v9 h => ?_;refine iR h fun h => ?_;refine cP h Q1e p1 fun v12 h => ?_;refine iR h fun h => ?_;exact iB h
def Q1m (_N : Nat) (code : Int) : Option Bool :=
 cond (Q3 .eql code 0)
 (some true)
 (cond (Q3 .eql code 1)
 (some true)
 (cond (Q3 .eql code 2)
 (some true)
 (cond (Q3 .eql code 128)
 (some true)
 (some false))))
theorem Qcz {N} {code} {r} (h : Q1m N code = some r) : pU 297 [.int .i64 code] (.bool r) := by
 refine Q2 Zc2 ?_;unfold Q1m at h;rw [cX] at h;refine ifO h (fun hc1 h => ?_) (fun hc1 h => ?_)
 ·refine ifT hc1 ?_;cases h; exact (.p _)
 refine ifO h (fun hc2 h => ?_) (fun hc2 h => ?_)
 ·refine ifT hc2 ?_;cases h; exact (.p _)
 refine ifO h (fun hc3 h => ?_) (fun hc3 h => ?_)
 ·refine ifT hc3 ?_;cases h; exact (.p _)
 exact iB h
def Um (N : Nat) (version : Int) (kind : Int) (code : Int) : Option Bool :=
 cond (Q3 .eql version 4)
 ((Q1m N code).bind fun v2 =>
 some v2)
 ((G7 N kind code).bind fun v4 =>
 some v4)
theorem Q84 {N} {version} {kind} {code} {r} (h : Um N version kind code = some r) : pU 246 [.int .i64 version, .int .i64 kind, .int .i64 code] (.bool r) := by
 refine Q2 Z8b ?_;unfold Um at h;rw [cX] at h;apply iU h <;> intro h
 ·refine cP h Qcz p1 fun v2 h => ?_;cases h; exact (.p _)
 refine cP h Q0o p2 fun v4 h => ?_;cases h; exact (.p _)
def Jy (_N : Nat) (version : Int) (kind : Int) : Option Bool :=
 cond (Q3 .eql version 4)
 (cond (Q3 .geq kind 8)
 (some (Q3 .leq kind 11))
 (some false))
 (cond (Q3 .eql version 5)
 (cond (Q3 .geq kind 8)
 (some (Q3 .leq kind 11))
 (some false))
 (some false))
theorem Q9v {N} {version} {kind} {r} (h : Jy N version kind = some r) : pU 207 [.int .i64 version, .int .i64 kind] (.bool r) := by
 refine Q2 Z7n ?_;unfold Jy at h;rw [cX] at h;apply iU h <;> intro h
 ·exact iB h
 refine iR h fun h => ?_;exact iB h
def Yp (N : Nat) (version : Int) (p : Q9) : Nat → Int → Option Int
 | 0, _ => none
 | n + 1, s52 =>
  cond (Q3 .lss s52 ((Q8 (cI .i64) p.Codes).length : Int))
  ((idx p.Codes s52).bind fun y54 =>
  (Um N version p.Kind y54).bind fun v56 =>
  cond (!v56)
  (some 2)
  (Yp N version p n (wrap .i64 (s52 + 1))))
  (some 0)
def Yq (N : Nat) (version : Int) (p : Q9) : Nat → Int → Option Int
 | 0, _ => none
 | n + 1, s29 =>
  cond (Q3 .lss s29 ((Q8 Qe.cells p.Filters).length : Int))
  ((idx p.Filters s29).bind fun y31 =>
  (Xr N y31.Topic).bind fun v33 =>
  cond (!v33)
  (some 10)
  ((Uq N version p.Kind y31).bind fun v36 =>
  cond (!v36)
  (some 2)
  (Yq N version p n (wrap .i64 (s29 + 1)))))
  (Yp N version p N 0)
def Jz (N : Nat) (version : Int) (p : Q9) : Option Int :=
 (Jy N version p.Kind).bind fun v1 =>
 cond (!v1)
 (some 2)
 ((Ja N version p).bind fun v4 =>
 cond (!v4)
 (some 2)
 ((Zy N p.Kind p.Props).bind fun v7 =>
 cond (Q3 .neq v7 0)
 (some v7)
 (Yq N version p N 0)))
theorem Q9u {N} {version} {p} {r} (h : Jz N version p = some r) : pU 204 [.int .i64 version, .agg (Q9.cells p)] (.int .i64 r) := by
 refine Q2 Zdo ?_;unfold Jz at h;rw [cX] at h;refine cP h Q9v p2 fun v1 h => ?_;refine iL h fun h => ?_;refine cP h Q8c (.cons (.p _) (.cons (Frz.agg' (Yj (f2_ (f1_ (.cons (.p _) p5))))) .nil)) fun v4 h => ?_;refine iL h fun h => ?_;refine cP h Yk p2 fun v7 h => ?_;refine iL h fun h => ?_;refine lpH (τ := Int) (fun s29 => (iI version :: .any :: .any :: .ptr 0 0 :: a16 (a8 (a2 (.p (.slice 5 (Q8 Qe.cells p.Filters)) :: iI ((Q8 Qe.cells p.Filters).length : Int) :: iI s29 :: a16 (a8 (a4 ([])))))) : List AV)) (fun n0 s29 => Yq N version p n0 s29) (0) h fun n0 s29 h => ?_
 first | rw [Yq] at h | simp only [Yq] at h
 rw [cX] at h;apply iU h <;> intro h
 ·refine xR h fun y31 h => ?_;refine cP h G0 p1 fun v33 h => ?_;refine iL h fun h => ?_;refine cP h Q81 (f2_ (.cons (Frz.agg' p5) .nil)) fun v36 h => ?_;refine iL h fun h => ?_;show Exists _;exact ⟨(n0, (wrap .i64 (s29 + 1))), h, Le _, (fun i => i), Z6⟩
 refine lpH (τ := Int) (fun s52 => (iI version :: .any :: .any :: .ptr 0 0 :: a16 (a16 (a8 (a4 (.p (.slice 1 (Q8 (cI .i64) p.Codes)) :: .p (.int .i64 ((Q8 (cI .i64) p.Codes).length : Int)) :: iI s52 :: a8 (a2 ([])))))) : List AV)) (fun n1 s52 => Yp N version p n1 s52) (0) h fun n1 s52 h => ?_
 first | rw [Yp] at h | simp only [Yp] at h
 rw [cX] at h;refine iR h fun h => ?_;refine xR h fun y54 h => ?_;refine cP h Q84 p3 fun v56 h => ?_;refine iL h fun h => ?_;show Exists _;exact ⟨(n1, (wrap .i64 (s52 + 1))), h, Le _, (fun i => i), Z6⟩
def Wy (_N : Nat) (f : Qe) : Option Int :=
 cond f.NoLocal
 (cond f.AsPublished
 (some (orI .i64 (orI .i64 (orI .i64 (Jq .i64 f.QoS 3) (Gy .i64 (Jq .i64 f.Handling 3) 4)) 4) 8))
 (some (orI .i64 (orI .i64 (Jq .i64 f.QoS 3) (Gy .i64 (Jq .i64 f.Handling 3) 4)) 4)))
 (cond f.AsPublished
 (some (orI .i64 (orI .i64 (Jq .i64 f.QoS 3) (Gy .i64 (Jq .i64 f.Handling 3) 4)) 8))
 (some (orI .i64 (Jq .i64 f.QoS 3) (Gy .i64 (Jq .i64 f.Handling 3) 4))))
theorem Q3d {N} {f} {r} (h : Wy N f = some r) : pU 206 [.agg (Qe.cells f)] (.int .i64 r) := by
 refine Q2 Zdk ?_;unfold Wy at h;apply iU h <;> intro h
 ·exact iB h
 exact iB h
def X8 (N : Nat) (p : Q9) : Nat → Int → (List Int) → Option ((List UInt8) × Int)
 | 0, _, _ => none
 | n + 1, s76, l77 =>
  cond (Q3 .lss s76 ((Q8 (cI .i64) p.Codes).length : Int))
  ((idx p.Codes s76).bind fun y79 =>
  cond (Nat.ble ((l77.length + 1 + 4096) * 1) 17592186044416) (X8 N p n (wrap .i64 (s76 + 1)) (l77 ++ [(wrap .u8 y79)])) none)
  (some ((l77.map fun n => UInt8.ofNat n.toNat), 0))
def Ze (N : Nat) (p : Q9) : Nat → Int → (List Int) → Option ((List UInt8) × Int)
 | 0, _, _ => none
 | n + 1, s49, l50 =>
  cond (Q3 .lss s49 ((Q8 Qe.cells p.Filters).length : Int))
  ((idx p.Filters s49).bind fun y52 =>
  (Gt N y52.Topic).bind fun v54 =>
  cond (Nat.beq v54.1.length 0)
  (cond (Q3 .eql p.Kind 8)
  ((Wy N y52).bind fun v58 =>
  cond (Nat.ble ((l50.length + 1 + 4096) * 1) 17592186044416) (Ze N p n (wrap .i64 (s49 + 1)) (l50 ++ [(wrap .u8 v58)])) none)
  (Ze N p n (wrap .i64 (s49 + 1)) l50))
  (cond (Nat.ble ((l50.length + v54.1.length + 4096) * 1) 17592186044416) (cond (Q3 .eql p.Kind 8)
  ((Wy N y52).bind fun v63 =>
  cond (Nat.ble (((l50.length + v54.1.length) + 1 + 4096) * 1) 17592186044416) (Ze N p n (wrap .i64 (s49 + 1)) ((l50 ++ (v54.1.map fun b => (b.toNat : Int))) ++ [(wrap .u8 v63)])) none)
  (Ze N p n (wrap .i64 (s49 + 1)) (l50 ++ (v54.1.map fun b => (b.toNat : Int))))) none))
  (X8 N p N 0 l50)
def Un (N : Nat) (p : Q9) (l11 : List Int) : Option ((List UInt8) × Int) :=
 Ze N p N 0 l11
def Gi (N : Nat) (version : Int) (p : Q9) : Option ((List UInt8) × Int) :=
 (Jz N version p).bind fun v1 =>
 cond (Q3 .neq v1 0)
 (some ([], v1))
 ((Qo N (wrap .u64 p.ID) 2).bind fun v4 =>
 cond (Q3 .eql version 5)
 ((Wm N p.Kind p.Props).bind fun v13 =>
 cond (Nat.beq v13.1.length 0)
 (Un N p (v4.map fun b => (b.toNat : Int)))
 (cond (Nat.ble ((v4.length + v13.1.length + 4096) * 1) 17592186044416) (Un N p ((v4.map fun b => (b.toNat : Int)) ++ (v13.1.map fun b => (b.toNat : Int)))) none))
 (Un N p (v4.map fun b => (b.toNat : Int))))
theorem Qag {N} {version} {p} {r} (h : Gi N version p = some r) : pU 161 [.int .i64 version, .agg (Q9.cells p)] (.tuple [.str r.1, .int .i64 r.2]) := by
 refine Q2 Zcr ?_;unfold Gi at h;rw [cX] at h;refine cP h Q9u (.cons (.p _) (.cons (Frz.agg' (Yj (f2_ (f1_ (.cons (.p _) p5))))) .nil)) fun v1 h => ?_;refine iL2 h fun h => ?_;refine cP h Qh p2 fun v4 h => ?_;refine Q41 (b := v4) ?_;refine jrA (r := r) (σ := (List Int)) (fun l11 => (a2 (.any :: .ptr 0 0 :: a2 (.any :: .slice 1 2 0 l11.length :: a16 (a16 (a16 (a16 (a8 (.any :: []))))))) : List AV)) (fun l11 => (.cells (Qev p ([])) :: .dead :: .cells (Qu (cI .u8) l11) :: [] : List AObj)) (fun l11 => Un N p l11) ?_ ?_
 ·apply iU h <;> intro h
  ·refine cP h Ve p2 fun v13 h => ?_;refine Q41 (b := v13.1) ?_;apply iU h <;> intro h
   ·show Exists _;exact ⟨((v4.map fun b => (b.toNat : Int))), h, (rho [0, 1, 1]), Z6⟩
   obtain ⟨hk16, h⟩ := Q4u h;refine Js (Xe (c := (cI .u8)) (e := 1) (l := (v4.map fun b => (b.toNat : Int))) (fun _ => rfl) sd hk16) ?_;refine Uy (c := (cI .u8)) (l := (v4.map fun b => (b.toNat : Int))) (v13.1.map fun b => (b.toNat : Int)) rfl ?_;show Exists _;exact ⟨(((v4.map fun b => (b.toNat : Int)) ++ (v13.1.map fun b => (b.toNat : Int)))), h, (fun i => i), Z6⟩
  show Exists _;exact ⟨((v4.map fun b => (b.toNat : Int))), h, (rho [0, 1, 1]), Z6⟩
 rintro l11 h
 unfold Un at h;refine lpC (τ := Int × (List Int)) (fun ⟨s49, l50⟩ => (a2 (.any :: .ptr 0 0 :: a2 (.any :: .slice 1 3 0 l50.length :: a16 (a16 (.any :: .p (.slice 5 (Q8 Qe.cells p.Filters)) :: iI ((Q8 Qe.cells p.Filters).length : Int) :: iI s49 :: a16 (a16 (a4 (.any :: []))))))) : List AV)) (fun ⟨_, l50⟩ => (.cells (Qev p ([])) :: .dead :: .dead :: .cells (Qu (cI .u8) l50) :: [] : List AObj)) (fun n1 ⟨s49, l50⟩ => Ze N p n1 s49 l50) (0, l11) h (rho [0, 1, 2, 2]) Z6 fun n1 ⟨s49, l50⟩ h => ?_
 first | rw [Ze] at h | simp only [Ze] at h
 rw [cX] at h;apply iU h <;> intro h
 ·refine xR h fun y52 h => ?_;refine cP h Q6q p1 fun v54 h => ?_;refine Q41 (b := v54.1) ?_;apply iU h <;> intro h
  ·apply iU h <;> intro h
   ·refine cP h Q3d (.cons (Frz.agg' p5) .nil) fun v58 h => ?_;obtain ⟨hk60, h⟩ := Q4u h;refine Js (Xe (c := (cI .u8)) (e := 1) (fun _ => rfl) sd hk60) ?_;refine Uy (c := (cI .u8)) [(wrap .u8 v58)] rfl ?_;show Exists _;exact ⟨(n1, (wrap .i64 (s49 + 1)), (l50 ++ [(wrap .u8 v58)])), h, Le _, (rho [0, 1, 2, 6]), Z6⟩
   show Exists _;exact ⟨(n1, (wrap .i64 (s49 + 1)), l50), h, Le _, (fun i => i), Z6⟩
  obtain ⟨hk61, h⟩ := Q4u h;refine Js (Xe (c := (cI .u8)) (e := 1) (l := l50) (fun _ => rfl) sd hk61) ?_;refine Uy (c := (cI .u8)) (l := l50) (v54.1.map fun b => (b.toNat : Int)) rfl ?_;apply iU h <;> intro h
  ·refine cP h Q3d (.cons (Frz.agg' p5) .nil) fun v63 h => ?_;obtain ⟨hk65, h⟩ := Q4u h;refine Js (Xe (c := (cI .u8)) (e := 1) (fun _ => rfl) sd hk65) ?_;refine Uy (c := (cI .u8)) [(wrap .u8 v63)] rfl ?_;show Exists _;exact ⟨(n1, (wrap .i64 (s49 + 1)), ((l50 ++ (v54.1.map fun b => (b.toNat : Int))) ++ [(wrap .u8 v63)])), h, Le _, (rho [0, 1, 2, 7]), Z6⟩
  show Exists _;exact ⟨(n1, (wrap .i64 (s49 + 1)), (l50 ++ (v54.1.map fun b => (b.toNat : Int)))), h, Le _, (rho [0, 1, 2, 5]), Z6⟩
 refine lpC (τ := Int × (List Int)) (fun ⟨s76, l77⟩ => (a4 (a2 (.any :: .slice 1 4 0 l77.length :: a16 (a16 (a16 (a8 (a2 (.any :: .p (.slice 1 (Q8 (cI .i64) p.Codes)) :: .p (.int .i64 ((Q8 (cI .i64) p.Codes).length : Int)) :: iI s76 :: a8 (a2 (.any :: []))))))))) : List AV)) (fun ⟨_, l77⟩ => (.cells (Qev p ([])) :: .dead :: .dead :: .dead :: .cells (Qu (cI .u8) l77) :: [] : List AObj)) (fun n2 ⟨s76, l77⟩ => X8 N p n2 s76 l77) (0, l50) h (rho [0, 1, 2, 3, 3]) Z6 fun n2 ⟨s76, l77⟩ h => ?_
 first | rw [X8] at h | simp only [X8] at h
 rw [cX] at h;apply iU h <;> intro h
 ·refine xR h fun y79 h => ?_;obtain ⟨hk81, h⟩ := Q4u h;refine Js (Xe (c := (cI .u8)) (e := 1) (fun _ => rfl) sd hk81) ?_;refine Uy (c := (cI .u8)) [(wrap .u8 y79)] rfl ?_;show Exists _;exact ⟨(n2, (wrap .i64 (s76 + 1)), (l77 ++ [(wrap .u8 y79)])), h, Le _, (rho [0, 1, 2, 3, 6]), Z6⟩
 refine Qhd (l := l77) (n := l77.length) sd ?_;obtain rfl := Qd h; exact u2
def Y7 (N : Nat) (d : Z9) : Option ((List UInt8) × Int) :=
 (Gi N d.version d.p).bind fun v1 =>
 some (v1.1, v1.2)
theorem Vb {N} {d} {r} (h : Y7 N d = some r) : pU 126 [.agg (Z9.cells d)] (.tuple [.str r.1, .int .i64 r.2]) := by
 refine Q2 Zfn ?_;unfold Y7 at h;refine cP h Qag (.cons (.p _) (.cons (Frz.agg' (Yj (f2_ (f1_ (.cons (.p _) p5))))) .nil)) fun v1 h => ?_;obtain rfl := Qd h; exact u2
theorem Qc0 : pU 92 [] (.pmap [(.int .i64 1, .agg [.func (.func 122) [] [], .func (.func 123) [] []]), (.int .i64 2, .agg [.func (.func 122) [] [], .func (.func 123) [] []]), (.int .i64 3, .agg [.func (.func 130) [] [], .func (.func 131) [] []]), (.int .i64 4, .agg [.func (.func 124) [] [], .func (.func 125) [] []]), (.int .i64 5, .agg [.func (.func 124) [] [], .func (.func 125) [] []]), (.int .i64 6, .agg [.func (.func 124) [] [], .func (.func 125) [] []]), (.int .i64 7, .agg [.func (.func 124) [] [], .func (.func 125) [] []]), (.int .i64 8, .agg [.func (.func 126) [] [], .func (.func 127) [] []]), (.int .i64 9, .agg [.func (.func 126) [] [], .func (.func 127) [] []]), (.int .i64 10, .agg [.func (.func 126) [] [], .func (.func 127) [] []]), (.int .i64 11, .agg [.func (.func 126) [] [], .func (.func 127) [] []]), (.int .i64 12, .agg [.func (.func 128) [] [], .func (.func 129) [] []]), (.int .i64 13, .agg [.func (.func 128) [] [], .func (.func 129) [] []]), (.int .i64 14, .agg [.func (.func 128) [] [], .func (.func 129) [] []]), (.int .i64 15, .agg [.func (.func 128) [] [], .func (.func 129) [] []])]) := Qg Q6w (N := 2000) (d := 60) (by kernel_rfl)
def U9 (N : Nat) (version : Int) (p : Q9) (s6 : Bool) : Option ((List UInt8) × Int) :=
 cond s6
 (some ([], 2))
 (cond ((p.Kind : Int) == 1)
 ((Wk N (⟨version, p⟩ : Z9)).bind fun v10 =>
 cond (Q3 .neq v10.2 0)
 (some ([], v10.2))
 (cond (Q3 .gtr (v10.1.length : Int) 268435455)
 (some ([], 4))
 (some (v10.1, 0))))
 (cond ((p.Kind : Int) == 2)
 ((Wk N (⟨version, p⟩ : Z9)).bind fun v15 =>
 cond (Q3 .neq v15.2 0)
 (some ([], v15.2))
 (cond (Q3 .gtr (v15.1.length : Int) 268435455)
 (some ([], 4))
 (some (v15.1, 0))))
 (cond ((p.Kind : Int) == 3)
 ((U4 N (⟨version, p⟩ : Z9)).bind fun v20 =>
 cond (Q3 .neq v20.2 0)
 (some ([], v20.2))
 (cond (Q3 .gtr (v20.1.length : Int) 268435455)
 (some ([], 4))
 (some (v20.1, 0))))
 (cond ((p.Kind : Int) == 4)
 ((Wo N (⟨version, p⟩ : Z9)).bind fun v25 =>
 cond (Q3 .neq v25.2 0)
 (some ([], v25.2))
 (cond (Q3 .gtr (v25.1.length : Int) 268435455)
 (some ([], 4))
 (some (v25.1, 0))))
 (cond ((p.Kind : Int) == 5)
 ((Wo N (⟨version, p⟩ : Z9)).bind fun v30 =>
 cond (Q3 .neq v30.2 0)
 (some ([], v30.2))
 (cond (Q3 .gtr (v30.1.length : Int) 268435455)
 (some ([], 4))
 (some (v30.1, 0))))
 (cond ((p.Kind : Int) == 6)
 ((Wo N (⟨version, p⟩ : Z9)).bind fun v35 =>
 cond (Q3 .neq v35.2 0)
 (some ([], v35.2))
 (cond (Q3 .gtr (v35.1.length : Int) 268435455)
 (some ([], 4))
 (some (v35.1, 0))))
 (cond ((p.Kind : Int) == 7)
 ((Wo N (⟨version, p⟩ : Z9)).bind fun v40 =>
 cond (Q3 .neq v40.2 0)
 (some ([], v40.2))
 (cond (Q3 .gtr (v40.1.length : Int) 268435455)
 (some ([], 4))
 (some (v40.1, 0))))
 (cond ((p.Kind : Int) == 8)
 ((Y7 N (⟨version, p⟩ : Z9)).bind fun v45 =>
 cond (Q3 .neq v45.2 0)
 (some ([], v45.2))
 (cond (Q3 .gtr (v45.1.length : Int) 268435455)
 (some ([], 4))
 (some (v45.1, 0))))
 (cond ((p.Kind : Int) == 9)
 ((Y7 N (⟨version, p⟩ : Z9)).bind fun v50 =>
 cond (Q3 .neq v50.2 0)
 (some ([], v50.2))
 (cond (Q3 .gtr (v50.1.length : Int) 268435455)
 (some ([], 4))
 (some (v50.1, 0))))
 (cond ((p.Kind : Int) == 10)
 ((Y7 N (⟨version, p⟩ : Z9)).bind fun v55 =>
 cond (Q3 .neq v55.2 0)
 (some ([], v55.2))
 (cond (Q3 .gtr (v55.1.length : Int) 268435455)
 (some ([], 4))
 (some (v55.1, 0))))
 (cond ((p.Kind : Int) == 11)
 ((Y7 N (⟨version, p⟩ : Z9)).bind fun v60 =>
 cond (Q3 .neq v60.2 0)
 (some ([], v60.2))
 (cond (Q3 .gtr (v60.1.length : Int) 268435455)
 (some ([], 4))
 (some (v60.1, 0))))
 (cond ((p.Kind : Int) == 12)
 ((Yo N (⟨version, p⟩ : Z9)).bind fun v65 =>
 cond (Q3 .neq v65.2 0)
 (some ([], v65.2))
 (cond (Q3 .gtr (v65.1.length : Int) 268435455)
 (some ([], 4))
 (some (v65.1, 0))))
 (cond ((p.Kind : Int) == 13)
 ((Yo N (⟨version, p⟩ : Z9)).bind fun v70 =>
 cond (Q3 .neq v70.2 0)
 (some ([], v70.2))
 (cond (Q3 .gtr (v70.1.length : Int) 268435455)
 (some ([], 4))
 (some (v70.1, 0))))
 (cond ((p.Kind : Int) == 14)
 ((Yo N (⟨version, p⟩ : Z9)).bind fun v75 =>
 cond (Q3 .neq v75.2 0)
 (some ([], v75.2))
 (cond (Q3 .gtr (v75.1.length : Int) 268435455)
 (some ([], 4))
 (some (v75.1, 0))))
 (cond ((p.Kind : Int) == 15)
 (cond (Q3 .eql version 4)
 (some ([], 8))
 ((Yo N (⟨version, p⟩ : Z9)).bind fun v82 =>
 cond (Q3 .neq v82.2 0)
 (some ([], v82.2))
 (cond (Q3 .gtr (v82.1.length : Int) 268435455)
 (some ([], 4))
 (some (v82.1, 0)))))
 (some ([], 8)))))))))))))))))
def Q5m (N : Nat) (version : Int) (p : Q9) : Option ((List UInt8) × Int) :=
 cond (Q3 .neq version 4)
 (U9 N version p (Q3 .neq version 5))
 (U9 N version p false)
theorem Qh2 {N} {version} {p} {r} (h : Q5m N version p = some r) : pU 74 [.int .i64 version, .agg (Q9.cells p)] (.tuple [.str r.1, .int .i64 r.2]) := by
 refine Q2 k74 ?_;unfold Q5m at h;rw [cX] at h;refine Y5 ?_;refine jrH (r := r) (σ := Bool) (fun s6 => (iI version :: .any :: .any :: .ptr 0 0 :: a8 (a2 (.any :: .p (.bool s6) :: a16 (a16 (a2 ([]))))) : List AV)) (fun s6 => U9 N version p s6) ?_ ?_
 ·apply iU h <;> intro h
  ·show Exists _;exact ⟨((Qs2 .neq version 5)), h, (fun i => i), Z6⟩
  show Exists _;exact ⟨(false), h, (fun i => i), Z6⟩
 rintro s6 h
 unfold U9 at h;rw [cX] at h;refine iL2 h fun h => ?_;refine Qa ?_;refine Q11 Qc0 .nil ?_;refine Q5d h (fun hc9 h => ?_) (fun hc9 h => ?_)
 ·refine Y5 ?_;refine Y5 ?_;refine ifF (Qmm hc9 (by decide)) ?_;refine cP h Q30 (.cons (Frz.agg' (Yj (f4_ (.cons (.p _) p5)))) .nil) fun v10 h => ?_;refine iL2 h fun h => ?_;exact iB2 h
 refine Q5d h (fun hc14 h => ?_) (fun hc14 h => ?_)
 ·refine Y5 ?_;refine Y5 ?_;refine ifF (Qmm hc14 (by decide)) ?_;refine cP h Q30 (.cons (Frz.agg' (Yj (f4_ (.cons (.p _) p5)))) .nil) fun v15 h => ?_;refine iL2 h fun h => ?_;exact iB2 h
 refine Q5d h (fun hc19 h => ?_) (fun hc19 h => ?_)
 ·refine Y5 ?_;refine Y5 ?_;refine ifF (Qmm hc19 (by decide)) ?_;refine cP h Q7j (.cons (Frz.agg' (Yj (f4_ (.cons (.p _) p5)))) .nil) fun v20 h => ?_;refine iL2 h fun h => ?_;exact iB2 h
 refine Q5d h (fun hc24 h => ?_) (fun hc24 h => ?_)
 ·refine Y5 ?_;refine Y5 ?_;refine ifF (Qmm hc24 (by decide)) ?_;refine cP h Ga (.cons (Frz.agg' (Yj (f4_ (.cons (.p _) p5)))) .nil) fun v25 h => ?_;refine iL2 h fun h => ?_;exact iB2 h
 refine Q5d h (fun hc29 h => ?_) (fun hc29 h => ?_)
 ·refine Y5 ?_;refine Y5 ?_;refine ifF (Qmm hc29 (by decide)) ?_;refine cP h Ga (.cons (Frz.agg' (Yj (f4_ (.cons (.p _) p5)))) .nil) fun v30 h => ?_;refine iL2 h fun h => ?_;exact iB2 h
 refine Q5d h (fun hc34 h => ?_) (fun hc34 h => ?_)
 ·refine Y5 ?_;refine Y5 ?_;refine ifF (Qmm hc34 (by decide)) ?_;refine cP h Ga (.cons (Frz.agg' (Yj (f4_ (.cons (.p _) p5)))) .nil) fun v35 h => ?_;refine iL2 h fun h => ?_;exact iB2 h
 refine Q5d h (fun hc39 h => ?_) (fun hc39 h => ?_)
 ·refine Y5 ?_;refine Y5 ?_;refine ifF (Qmm hc39 (by decide)) ?_;refine cP h Ga (.cons (Frz.agg' (Yj (f4_ (.cons (.p _) p5)))) .nil) fun v40 h => ?_;refine iL2 h fun h => ?_;exact iB2 h
 refine Q5d h (fun hc44 h => ?_) (fun hc44 h => ?_)
 ·refine Y5 ?_;refine Y5 ?_;refine ifF (Qmm hc44 (by decide)) ?_;refine cP h Vb (.cons (Frz.agg' (Yj (f4_ (.cons (.p _) p5)))) .nil) fun v45 h => ?_;refine iL2 h fun h => ?_;exact iB2 h
 refine Q5d h (fun hc49 h => ?_) (fun hc49 h => ?_)
 ·refine Y5 ?_;refine Y5 ?_;refine ifF (Qmm hc49 (by decide)) ?_;refine cP h Vb (.cons (Frz.agg' (Yj (f4_ (.cons (.p _) p5)))) .nil) fun v50 h => ?_;refine iL2 h fun h => ?_;exact iB2 h
 refine Q5d h (fun hc54 h => ?_) (fun hc54 h => ?_)
 ·refine Y5 ?_;refine Y5 ?_;refine ifF (Qmm hc54 (by decide)) ?_;refine cP h Vb (.cons (Frz.agg' (Yj (f4_ (.cons (.p _) p5)))) .nil) fun v55 h => ?_;refine iL2 h fun h => ?_;exact iB2 h
 refine Q5d h (fun hc59 h => ?_) (fun hc59 h => ?_)
 ·refine Y5 ?_;refine Y5 ?_;refine ifF (Qmm hc59 (by decide)) ?_;refine cP h Vb (.cons (Frz.agg' (Yj (f4_ (.cons (.p _) p5)))) .nil) fun v60 h => ?_;refine iL2 h fun h => ?_;exact iB2 h
 refine Q5d h (fun hc64 h => ?_) (fun hc64 h => ?_)
 ·refine Y5 ?_;refine Y5 ?_;refine ifF (Qmm hc64 (by decide)) ?_;refine cP h U8 (.cons (Frz.agg' (Yj (f4_ (.cons (.p _) p5)))) .nil) fun v65 h => ?_;refine iL2 h fun h => ?_;exact iB2 h
 refine Q5d h (fun hc69 h => ?_) (fun hc69 h => ?_)
 ·refine Y5 ?_;refine Y5 ?_;refine ifF (Qmm hc69 (by decide)) ?_;refine cP h U8 (.cons (Frz.agg' (Yj (f4_ (.cons (.p _) p5)))) .nil) fun v70 h => ?_;refine iL2 h fun h => ?_;exact iB2 h
 refine Q5d h (fun hc74 h => ?_) (fun hc74 h => ?_)
 ·refine Y5 ?_;refine Y5 ?_;refine ifF (Qmm hc74 (by decide)) ?_;refine cP h U8 (.cons (Frz.agg' (Yj (f4_ (.cons (.p _) p5)))) .nil) fun v75 h => ?_;refine iL2 h fun h => ?_;exact iB2 h
 refine Q5d h (fun hc79 h => ?_) (fun hc79 h => ?_)
 ·refine Y5 ?_;refine Y5 ?_;refine ifT (Qmm hc79 (by decide)) ?_;refine iL2 h fun h => ?_;refine cP h U8 (.cons (Frz.agg' (Yj (f4_ (.cons (.p _) p5)))) .nil) fun v82 h => ?_;refine iL2 h fun h => ?_;exact iB2 h
 refine Z3l ?_;refine Y5 ?_;refine Y5 ?_;obtain rfl := Qd h; exact u2
def Uc (N : Nat) (version : Int) (p : Q9) : Option Int :=
 (Q5m N version p).bind fun v1 =>
 some v1.2
theorem Q8t {N} {version} {p} {r} (h : Uc N version p = some r) : pU 56 [.int .i64 version, .agg (Q9.cells p)] (.int .i64 r) := by
 refine Q2 k56 ?_;unfold Uc at h;refine cP h Qh2 (.cons (.p _) (.cons (Frz.agg' (Yj (f2_ (f1_ (.cons (.p _) p5))))) .nil)) fun v1 h => ?_;cases h; exact (.p _)
def Gq (_N : Nat) (kind : Int) : Option (Int × Bool) :=
 cond (Q3 .eql kind 2)
 (some (1, false))
 (cond (Q3 .eql kind 3)
 (some (8, false))
 (cond (Q3 .eql kind 4)
 (some (16, false))
 (cond (Q3 .eql kind 5)
 (some (32, false))
 (cond (Q3 .eql kind 11)
 (some (32, false))
 (cond (Q3 .eql kind 13)
 (some (32, false))
 (cond (Q3 .eql kind 16)
 (some (32, false))
 (cond (Q3 .eql kind 6)
 (some (64, false))
 (cond (Q3 .eql kind 12)
 (some (64, false))
 (cond (Q3 .eql kind 14)
 (some (64, false))
 (cond (Q3 .eql kind 7)
 (some (8, true))
 (cond (Q3 .eql kind 8)
 (some (16, true))
 (cond (Q3 .eql kind 9)
 (some (32, true))
 (cond (Q3 .eql kind 10)
 (some (64, true))
 (cond (Q3 .eql kind 17)
 (some (64, true))
 (some (0, false))))))))))))))))
theorem Q73 {N} {kind} {r} (h : Gq N kind = some r) : pU 136 [.int .i64 kind] (.tuple [.int .i64 r.1, .bool r.2]) := by
 refine Q2 Z6f ?_;unfold Gq at h;rw [cX] at h;refine iL2 h fun h => ?_;refine iL2 h fun h => ?_;refine iL2 h fun h => ?_;refine ifO h (fun hc4 h => ?_) (fun hc4 h => ?_)
 ·refine ifT hc4 ?_;obtain rfl := Qd h; exact u2
 refine ifO h (fun hc5 h => ?_) (fun hc5 h => ?_)
 ·refine ifT hc5 ?_;obtain rfl := Qd h; exact u2
 refine ifO h (fun hc6 h => ?_) (fun hc6 h => ?_)
 ·refine ifT hc6 ?_;obtain rfl := Qd h; exact u2
 refine iL2 h fun h => ?_;refine ifO h (fun hc8 h => ?_) (fun hc8 h => ?_)
 ·refine ifT hc8 ?_;obtain rfl := Qd h; exact u2
 refine ifO h (fun hc9 h => ?_) (fun hc9 h => ?_)
 ·refine ifT hc9 ?_;obtain rfl := Qd h; exact u2
 refine iL2 h fun h => ?_;refine iL2 h fun h => ?_;refine iL2 h fun h => ?_;refine iL2 h fun h => ?_;refine ifO h (fun hc14 h => ?_) (fun hc14 h => ?_)
 ·refine ifT hc14 ?_;obtain rfl := Qd h; exact u2
 exact iB2 h
def Vp (_N : Nat) (n_0 : Int) (bits : Int) (signed : Bool) : Option Bool :=
 cond signed
 (cond (decide (0 ≤ (wrap .i64 (bits - 1)))) (cond (Q3 .geq (wrap .i64 n_0) (Gy .i64 (-1) (wrap .i64 (bits - 1))))
 (some (Q3 .leq (wrap .i64 n_0) (wrap .i64 (0 - (wrap .i64 ((Gy .i64 (-1) (wrap .i64 (bits - 1))) + 1))))))
 (some false)) none)
 (cond (Q3 .eql bits 64)
 (some true)
 (cond (decide (0 ≤ bits)) (some (Q3 .eql (Q4m .u64 n_0 bits) 0)) none))
theorem Q47 {N} {n_0} {bits} {signed} {r} (h : Vp N n_0 bits signed = some r) : pU 137 [.int .u64 n_0, .int .i64 bits, .bool signed] (.bool r) := by
 refine Q2 Z83 ?_;unfold Vp at h;rw [cX] at h;apply iU h <;> intro h
 ·refine kU h fun h => ?_;exact iB h
 refine iL h fun h => ?_;refine kU h fun h => ?_;cases h; exact (.p _)
def Q3t (N : Nat) (c : Q8m) (v : Q0) : Option Bool :=
 cond (Q3 .eql c.Code 65)
 (some (Q3 .eql v.N' 1))
 (cond c.Sized
 (cond (Q3 .eql c.Width 4)
 (some true)
 (some (Q3 .leq (v.Text.length : Int) 255)))
 (cond (Q3 .eql c.Width 0)
 (some (Q3 .eql v.N' 0))
 (cond (Q3 .eql c.Width 1)
 ((Gq N c.Kind).bind fun v6 =>
 (Vp N v.N' 8 v6.2).bind fun v8 =>
 some v8)
 (some true))))
theorem Qdn {N} {c} {v} {r} (h : Q3t N c v = some r) : pU 285 [.agg (Q8m.cells c), .agg (Q0.cells v)] (.bool r) := by
 refine Q2 Zgy ?_;unfold Q3t at h;rw [cX] at h;refine iL h fun h => ?_;apply iU h <;> intro h
 ·exact iB h
 refine iL h fun h => ?_;refine iR h fun h => ?_;refine cP h Q73 p1 fun v6 h => ?_;refine cP h Q47 p3 fun v8 h => ?_;cases h; exact (.p _)
def Uj (N : Nat) (n_0 : Int) : Option Bool :=
 cond (Q3 .leq n_0 1114111)
 ((Yc N (wrap .i32 n_0)).bind fun v2 =>
 some v2)
 (some false)
theorem Q83 {N} {n_0} {r} (h : Uj N n_0 = some r) : pU 138 [.int .u64 n_0] (.bool r) := by
 refine Q2 Z7r ?_;unfold Uj at h;rw [cX] at h;refine iR h fun h => ?_;refine cP h Q0t p1 fun v2 h => ?_;cases h; exact (.p _)
def Ue (_N : Nat) (kind : Int) : Option Bool :=
 cond (Q3 .eql kind 15)
 (some true)
 (cond (Q3 .eql kind 18)
 (some true)
 (cond (Q3 .eql kind 19)
 (some true)
 (cond (Q3 .eql kind 20)
 (some true)
 (cond (Q3 .eql kind 21)
 (some true)
 (some false)))))
theorem Q4q {N} {kind} {r} (h : Ue N kind = some r) : pU 139 [.int .i64 kind] (.bool r) := by
 refine Q2 Zgv ?_;unfold Ue at h;rw [cX] at h;refine ifO h (fun hc1 h => ?_) (fun hc1 h => ?_)
 ·refine ifT hc1 ?_;cases h; exact (.p _)
 refine ifO h (fun hc2 h => ?_) (fun hc2 h => ?_)
 ·refine ifT hc2 ?_;cases h; exact (.p _)
 refine ifO h (fun hc3 h => ?_) (fun hc3 h => ?_)
 ·refine ifT hc3 ?_;cases h; exact (.p _)
 refine ifO h (fun hc4 h => ?_) (fun hc4 h => ?_)
 ·refine ifT hc4 ?_;cases h; exact (.p _)
 exact iB h
def Qq (_N : Nat) (s_0 : List UInt8) : Option Int :=
 (idx s_0 0).bind fun b1 =>
 (idx s_0 1).bind fun b3 =>
 (idx s_0 2).bind fun b5 =>
 (idx s_0 3).bind fun b7 =>
 (idx s_0 4).bind fun b9 =>
 (idx s_0 5).bind fun b11 =>
 (idx s_0 6).bind fun b13 =>
 (idx s_0 7).bind fun b15 =>
 some (orI .u64 (orI .u64 (orI .u64 (orI .u64 (orI .u64 (orI .u64 (orI .u64 (wrap .u64 (b1.toNat : Int)) (Gy .u64 (wrap .u64 (b3.toNat : Int)) 8)) (Gy .u64 (wrap .u64 (b5.toNat : Int)) 16)) (Gy .u64 (wrap .u64 (b7.toNat : Int)) 24)) (Gy .u64 (wrap .u64 (b9.toNat : Int)) 32)) (Gy .u64 (wrap .u64 (b11.toNat : Int)) 40)) (Gy .u64 (wrap .u64 (b13.toNat : Int)) 48)) (Gy .u64 (wrap .u64 (b15.toNat : Int)) 56))
theorem Zm {N} {s_0} {r} (h : Qq N s_0 = some r) : pU 226 [.str s_0] (.int .u64 r) := by
 refine Q2 Zbn ?_;unfold Qq at h;refine Qa ?_;refine xB h fun b1 h => ?_;refine xB h fun b3 h => ?_;refine xB h fun b5 h => ?_;refine xB h fun b7 h => ?_;refine xB h fun b9 h => ?_;refine xB h fun b11 h => ?_;refine xB h fun b13 h => ?_;refine xB h fun b15 h => ?_;cases h; exact (.p _)
def Zl (N : Nat) (k0 : (List UInt8) → Option Bool) : Nat → (List UInt8) → Option Bool
 | 0, _ => none
 | n + 1, s272 =>
  cond (Q3 .gtr (s272.length : Int) 32)
  ((Qq N s272).bind fun v274 =>
  cond (Nat.ble 8 s272.length && Nat.ble s272.length s272.length) ((Qq N ((s272.take s272.length).drop 8)).bind fun v277 =>
  cond (Nat.ble 16 s272.length && Nat.ble s272.length s272.length) ((Qq N ((s272.take s272.length).drop 16)).bind fun v280 =>
  cond (Nat.ble 24 s272.length && Nat.ble s272.length s272.length) ((Qq N ((s272.take s272.length).drop 24)).bind fun v283 =>
  cond (Q3 .eql (Jq .u64 (orI .u64 (orI .u64 v274 v277) (orI .u64 v280 v283)) 9259542123273814144) 0)
  (cond (Nat.ble 32 s272.length && Nat.ble s272.length s272.length) (Zl N k0 n ((s272.take s272.length).drop 32)) none)
  (k0 s272)) none) none) none)
  (k0 s272)
def Q7 (N : Nat) : Nat → (List UInt8) → Option Bool
 | 0, _ => none
 | n + 1, s224 =>
  cond (Q3 .gtr (s224.length : Int) 0)
  ((idx s224 0).bind fun b226 =>
  cond (Q3 .lss (b226.toNat : Int) 128)
  (cond (Nat.ble 1 s224.length && Nat.ble s224.length s224.length) (cond (Q3 .gtr (((s224.take s224.length).drop 1).length : Int) 8)
  ((Qq N ((s224.take s224.length).drop 1)).bind fun v231 =>
  cond (Q3 .eql (Jq .u64 v231 9259542123273814144) 0)
  (cond (Nat.ble 8 (((s224.take s224.length).drop 1).length) && Nat.ble (((s224.take s224.length).drop 1).length) ((s224.take s224.length).drop 1).length) (cond (Q3 .gtr (((((s224.take s224.length).drop 1).take (((s224.take s224.length).drop 1).length)).drop 8).length : Int) 16)
  ((Qq N ((((s224.take s224.length).drop 1).take (((s224.take s224.length).drop 1).length)).drop 8)).bind fun v236 =>
  cond (Nat.ble 8 (((((s224.take s224.length).drop 1).take (((s224.take s224.length).drop 1).length)).drop 8).length) && Nat.ble (((((s224.take s224.length).drop 1).take (((s224.take s224.length).drop 1).length)).drop 8).length) ((((s224.take s224.length).drop 1).take (((s224.take s224.length).drop 1).length)).drop 8).length) ((Qq N ((((((s224.take s224.length).drop 1).take (((s224.take s224.length).drop 1).length)).drop 8).take (((((s224.take s224.length).drop 1).take (((s224.take s224.length).drop 1).length)).drop 8).length)).drop 8)).bind fun v239 =>
  cond (Q3 .eql (Jq .u64 (orI .u64 v236 v239) 9259542123273814144) 0)
  (cond (Nat.ble 16 (((((s224.take s224.length).drop 1).take (((s224.take s224.length).drop 1).length)).drop 8).length) && Nat.ble (((((s224.take s224.length).drop 1).take (((s224.take s224.length).drop 1).length)).drop 8).length) ((((s224.take s224.length).drop 1).take (((s224.take s224.length).drop 1).length)).drop 8).length) (Zl N (Q7 N n) N ((((((s224.take s224.length).drop 1).take (((s224.take s224.length).drop 1).length)).drop 8).take (((((s224.take s224.length).drop 1).take (((s224.take s224.length).drop 1).length)).drop 8).length)).drop 16)) none)
  (Q7 N n ((((s224.take s224.length).drop 1).take (((s224.take s224.length).drop 1).length)).drop 8))) none)
  (Q7 N n ((((s224.take s224.length).drop 1).take (((s224.take s224.length).drop 1).length)).drop 8))) none)
  (Q7 N n ((s224.take s224.length).drop 1)))
  (Q7 N n ((s224.take s224.length).drop 1))) none)
  ((idx gtab0 (b226.toNat : Int)).bind fun y287 =>
  (idx gtab1 (Q4m .u8 y287 4)).bind fun y289 =>
  cond (Q3 .eql (wrap .i64 (Jq .u8 y287 7)) 2)
  (cond (Q3 .lss (s224.length : Int) 2)
  (some false)
  ((idx s224 1).bind fun b293 =>
  cond (Q3 .lss (b293.toNat : Int) y289.1)
  (some false)
  ((idx s224 1).bind fun b296 =>
  cond (Q3 .lss y289.2 (b296.toNat : Int))
  (some false)
  (cond (Nat.ble 2 s224.length && Nat.ble s224.length s224.length) (Q7 N n ((s224.take s224.length).drop 2)) none))))
  (cond (Q3 .eql (wrap .i64 (Jq .u8 y287 7)) 3)
  (cond (Q3 .lss (s224.length : Int) 3)
  (some false)
  ((idx s224 1).bind fun b302 =>
  cond (Q3 .lss (b302.toNat : Int) y289.1)
  (some false)
  ((idx s224 1).bind fun b305 =>
  cond (Q3 .lss y289.2 (b305.toNat : Int))
  (some false)
  ((idx s224 2).bind fun b308 =>
  cond (Q3 .lss (b308.toNat : Int) 128)
  (some false)
  ((idx s224 2).bind fun b311 =>
  cond (Q3 .lss 191 (b311.toNat : Int))
  (some false)
  (cond (Nat.ble 3 s224.length && Nat.ble s224.length s224.length) (Q7 N n ((s224.take s224.length).drop 3)) none))))))
  (cond (Q3 .eql (wrap .i64 (Jq .u8 y287 7)) 4)
  (cond (Q3 .lss (s224.length : Int) 4)
  (some false)
  ((idx s224 1).bind fun b317 =>
  cond (Q3 .lss (b317.toNat : Int) y289.1)
  (some false)
  ((idx s224 1).bind fun b320 =>
  cond (Q3 .lss y289.2 (b320.toNat : Int))
  (some false)
  ((idx s224 2).bind fun b323 =>
  cond (Q3 .lss (b323.toNat : Int) 128)
  (some false)
  ((idx s224 2).bind fun b326 =>
  cond (Q3 .lss 191 (b326.toNat : Int))
  (some false)
  ((idx s224 3).bind fun b329 =>
  cond (Q3 .lss (b329.toNat : Int) 128)
  (some false)
  ((idx s224 3).bind fun b332 =>
  cond (Q3 .lss 191 (b332.toNat : Int))
  (some false)
  (cond (Nat.ble 4 s224.length && Nat.ble s224.length s224.length) (Q7 N n ((s224.take s224.length).drop 4)) none))))))))
  (some false)))))
  (some true)
def Ws (N : Nat) (s_0 : List UInt8) : Option Bool :=
 Q7 N N s_0
theorem Q4j {N} {s_0} {r} (h : Ws N s_0 = some r) : pU 175 [.str s_0] (.bool r) := by
 refine Q2 Za0 ?_;unfold Ws at h;refine lpH (τ := (List UInt8)) (fun s224 => (iS s224 :: a16 (a16 (a16 (a16 (a16 (a16 (a16 (a16 (a16 (a16 (a8 ([]))))))))))) : List AV)) (fun n0 s224 => Q7 N n0 s224) (s_0) h fun n0 s224 h => ?_
 first | rw [Q7] at h | simp only [Q7] at h
 rw [cX] at h;refine iR h fun h => ?_;refine xB h fun b226 h => ?_;apply iU h <;> intro h
 ·refine kU h fun h => ?_;apply iU h <;> intro h
  ·refine cP h Zm p1 fun v231 h => ?_;apply iU h <;> intro h
   ·refine kU h fun h => ?_;refine Qa ?_;apply iU h <;> intro h
    ·refine cD h Zm p1 fun v236 h => ?_;refine kU h fun h => ?_;refine cD h Zm p1 fun v239 h => ?_;apply iU h <;> intro h
     ·refine kU h fun h => ?_;refine lpH (τ := (List UInt8)) (fun s272 => (iS s272 :: a16 (a16 (a16 (a16 (a16 (a16 (a16 (a16 (a16 (a16 (a8 ([]))))))))))) : List AV)) (fun n1 s272 => Zl N (Q7 N n0) n1 s272) (((((((s224.take s224.length).drop 1).take (((s224.take s224.length).drop 1).length)).drop 8).take (((((s224.take s224.length).drop 1).take (((s224.take s224.length).drop 1).length)).drop 8).length)).drop 16)) h fun n1 s272 h => ?_
      first | rw [Zl] at h | simp only [Zl] at h
      rw [cX] at h;refine Qa ?_;apply iU h <;> intro h
      ·refine cD h Zm p1 fun v274 h => ?_;refine kU h fun h => ?_;refine cD h Zm p1 fun v277 h => ?_;refine kU h fun h => ?_;refine cD h Zm p1 fun v280 h => ?_;refine kU h fun h => ?_;refine cD h Zm p1 fun v283 h => ?_;apply iU h <;> intro h
       ·refine kU h fun h => ?_;show Exists _;exact ⟨(n1, ((s272.take s272.length).drop 32)), h, Le _, (fun i => i), Z6⟩
       show Exists _;exact ⟨(n0, s272), h, Le _, (fun i => i), Z6⟩
      show Exists _;exact ⟨(n0, s272), h, Le _, (fun i => i), Z6⟩
     show Exists _;exact ⟨(n0, ((((s224.take s224.length).drop 1).take (((s224.take s224.length).drop 1).length)).drop 8)), h, Le _, (fun i => i), Z6⟩
    show Exists _;exact ⟨(n0, ((((s224.take s224.length).drop 1).take (((s224.take s224.length).drop 1).length)).drop 8)), h, Le _, (fun i => i), Z6⟩
   show Exists _;exact ⟨(n0, ((s224.take s224.length).drop 1)), h, Le _, (fun i => i), Z6⟩
  show Exists _;exact ⟨(n0, ((s224.take s224.length).drop 1)), h, Le _, (fun i => i), Z6⟩
 obtain ⟨y287, hy288, h⟩ := U1 h;refine Js (Uz hy288 Qlk) ?_
 refine Qis (c := (cI .u8)) (e := 1) (fun _ => rfl) Qpn hy288 (off := 0) (by decide) (by first | omega | (simp only [Jq, orI, Qc7, W8, Gy, Q4m]; omega)) ?_
 obtain ⟨y289, hy290, h⟩ := U1 h;refine Js (Uz hy290 Qlx) ?_
 refine Qis (c := cUU) (e := 2) (fun _ => rfl) Qp8 hy290 (off := 0) (by decide) (by first | omega | (simp only [Jq, orI, Qc7, W8, Gy, Q4m]; omega)) ?_
 apply iU h <;> intro h
 ·refine Qa ?_;refine iL h fun h => ?_;refine xB h fun b293 h => ?_;refine iL h fun h => ?_;refine xB h fun b296 h => ?_;refine iL h fun h => ?_;refine kU h fun h => ?_;show Exists _;exact ⟨(n0, ((s224.take s224.length).drop 2)), h, Le _, (fun i => i), Z6⟩
 apply iU h <;> intro h
 ·refine Qa ?_;refine iL h fun h => ?_;refine xB h fun b302 h => ?_;refine iL h fun h => ?_;refine xB h fun b305 h => ?_;refine iL h fun h => ?_;refine xB h fun b308 h => ?_;refine iL h fun h => ?_;refine xB h fun b311 h => ?_;refine iL h fun h => ?_;refine kU h fun h => ?_;show Exists _;exact ⟨(n0, ((s224.take s224.length).drop 3)), h, Le _, (fun i => i), Z6⟩
 refine iR h fun h => ?_;refine Qa ?_;refine iL h fun h => ?_;refine xB h fun b317 h => ?_;refine iL h fun h => ?_;refine xB h fun b320 h => ?_;refine iL h fun h => ?_;refine xB h fun b323 h => ?_;refine iL h fun h => ?_;refine xB h fun b326 h => ?_;refine iL h fun h => ?_;refine xB h fun b329 h => ?_;refine iL h fun h => ?_;refine xB h fun b332 h => ?_;refine iL h fun h => ?_;refine kU h fun h => ?_;show Exists _;exact ⟨(n0, ((s224.take s224.length).drop 4)), h, Le _, (fun i => i), Z6⟩
def V1 (N : Nat) (v : Q0) : Nat → Int → Option Int
 | 0, _ => none
 | n + 1, s15 =>
  cond (Q3 .lss s15 (v.Text.length : Int))
  ((idx v.Text s15).bind fun b17 =>
  cond (Q3 .geq (b17.toNat : Int) 128)
  (some 6)
  (V1 N v n (wrap .i64 (s15 + 1))))
  (some 0)
def W9 (N : Nat) (v : Q0) : Option Int :=
 cond (Q3 .eql v.Kind 20)
 ((Ws N v.Text).bind fun v2 =>
 cond (!v2)
 (some 6)
 (some 0))
 (cond (Q3 .eql v.Kind 21)
 (V1 N v N 0)
 (some 0))
theorem Ud {N} {v} {r} (h : W9 N v = some r) : pU 140 [.agg (Q0.cells v)] (.int .i64 r) := by
 refine Q2 Zf6 ?_;unfold W9 at h;rw [cX] at h;apply iU h <;> intro h
 ·refine cP h Q4j p1 fun v2 h => ?_;exact iB h
 refine iR h fun h => ?_;refine lpH (τ := Int) (fun s15 => (.any :: .ptr 0 0 :: a8 (a4 (a2 (iI (v.Text.length : Int) :: iI s15 :: a8 ([])))) : List AV)) (fun n0 s15 => V1 N v n0 s15) (0) h fun n0 s15 h => ?_
 first | rw [V1] at h | simp only [V1] at h
 rw [cX] at h;refine iR h fun h => ?_;refine xB h fun b17 h => ?_;refine iL h fun h => ?_;show Exists _;exact ⟨(n0, (wrap .i64 (s15 + 1))), h, Le _, (fun i => i), Z6⟩
def Jx (N : Nat) (v : Q0) : Option Int :=
 cond (Q3 .lss v.Kind 1)
 (some 8)
 (cond (Q3 .gtr v.Kind 21)
 (some 8)
 ((Gq N v.Kind).bind fun v3 =>
 (Vp N v.N' v3.1 v3.2).bind fun v5 =>
 cond (!v5)
 (some 2)
 (cond (Q3 .eql v.Kind 16)
 ((Uj N v.N').bind fun v9 =>
 cond (!v9)
 (some 2)
 (cond (Q3 .neq ((Q0.rows v.Items).length : Int) 0)
 (some 2)
 ((Ue N v.Kind).bind fun v13 =>
 cond (!v13)
 (cond (Q4s .neq v.Text [])
 (some 2)
 (some 0))
 (cond (Q3 .eql v.Kind 15)
 (cond (Q3 .neq (v.Text.length : Int) 16)
 (some 2)
 (cond (Q3 .gtr (v.Text.length : Int) 1048576)
 (some 4)
 ((W9 N v).bind fun v20 =>
 some v20)))
 (cond (Q3 .eql v.Kind 18)
 (cond (Q3 .neq (v.Text.length : Int) 16)
 (some 2)
 (cond (Q3 .gtr (v.Text.length : Int) 1048576)
 (some 4)
 ((W9 N v).bind fun v25 =>
 some v25)))
 (cond (Q3 .gtr (v.Text.length : Int) 1048576)
 (some 4)
 ((W9 N v).bind fun v28 =>
 some v28)))))))
 (cond (Q3 .neq ((Q0.rows v.Items).length : Int) 0)
 (some 2)
 ((Ue N v.Kind).bind fun v31 =>
 cond (!v31)
 (cond (Q4s .neq v.Text [])
 (some 2)
 (some 0))
 (cond (Q3 .eql v.Kind 15)
 (cond (Q3 .neq (v.Text.length : Int) 16)
 (some 2)
 (cond (Q3 .gtr (v.Text.length : Int) 1048576)
 (some 4)
 ((W9 N v).bind fun v38 =>
 some v38)))
 (cond (Q3 .eql v.Kind 18)
 (cond (Q3 .neq (v.Text.length : Int) 16)
 (some 2)
 (cond (Q3 .gtr (v.Text.length : Int) 1048576)
 (some 4)
 ((W9 N v).bind fun v43 =>
 some v43)))
 (cond (Q3 .gtr (v.Text.length : Int) 1048576)
 (some 4)
 ((W9 N v).bind fun v46 =>
 some v46)))))))))
theorem Q6c {N} {v} {r} (h : Jx N v = some r) : pU 101 [.agg (Q0.cells v)] (.int .i64 r) := by
 refine Q2 Zae ?_;unfold Jx at h;rw [cX, cY] at h;refine iL h fun h => ?_;refine iL h fun h => ?_;refine cP h Q73 p1 fun v3 h => ?_;refine cP h Q47 p3 fun v5 h => ?_;refine iL h fun h => ?_;apply iU h <;> intro h
 ·refine cP h Q83 p1 fun v9 h => ?_;refine iL h fun h => ?_;refine iL h fun h => ?_;refine cP h Q4q p1 fun v13 h => ?_;apply iU h <;> intro h
  ·exact iB h
  apply iU h <;> intro h
  ·refine iL h fun h => ?_;refine iL h fun h => ?_;refine cP h Ud (.cons q4 .nil) fun v20 h => ?_;cases h; exact (.p _)
  apply iU h <;> intro h
  ·refine iL h fun h => ?_;refine iL h fun h => ?_;refine cP h Ud (.cons q4 .nil) fun v25 h => ?_;cases h; exact (.p _)
  refine iL h fun h => ?_;refine cP h Ud (.cons q4 .nil) fun v28 h => ?_;cases h; exact (.p _)
 refine iL h fun h => ?_;refine cP h Q4q p1 fun v31 h => ?_;apply iU h <;> intro h
 ·exact iB h
 apply iU h <;> intro h
 ·refine iL h fun h => ?_;refine iL h fun h => ?_;refine cP h Ud (.cons q4 .nil) fun v38 h => ?_;cases h; exact (.p _)
 apply iU h <;> intro h
 ·refine iL h fun h => ?_;refine iL h fun h => ?_;refine cP h Ud (.cons q4 .nil) fun v43 h => ?_;cases h; exact (.p _)
 refine iL h fun h => ?_;refine cP h Ud (.cons q4 .nil) fun v46 h => ?_;cases h; exact (.p _)
def Q1q (N : Nat) (code : Int) (v : Q0) : Option Bool :=
 (Q46 N code).bind fun v1 =>
 cond v1.2
 (cond (Q3 .eql v1.1.Kind v.Kind)
 ((Jx N v).bind fun v5 =>
 cond (Q3 .eql v5 0)
 ((Q3t N v1.1 v).bind fun v8 =>
 some v8)
 (some false))
 (some false))
 (some false)
theorem Qdj {N} {code} {v} {r} (h : Q1q N code v = some r) : pU 229 [.int .i64 code, .agg (Q0.cells v)] (.bool r) := by
 refine Q2 Zcw ?_;unfold Q1q at h;rw [cX] at h;refine cP h Q5p p1 fun v1 h => ?_;refine iR h fun h => ?_;refine iR h fun h => ?_;refine cP h Q6c (.cons q4 .nil) fun v5 h => ?_;refine iR h fun h => ?_;refine cP h Qdn (.cons (Frz.agg' p5) (.cons q4 .nil)) fun v8 h => ?_;cases h; exact (.p _)
def U0 (N : Nat) (f : Q1) (code : Int) : Option Bool :=
 (Q46 N code).bind fun v1 =>
 cond (!v1.1.Items)
 ((Q1q N code f.v).bind fun v4 =>
 some v4)
 (cond (Q3 .eql v1.1.Kind 25)
 (some true)
 (cond (!v1.1.Sized)
 (some (Q3 .eql ((Q1.rows f.kids).length : Int) 0))
 (cond (Q3 .eql v1.1.Width 4)
 (some true)
 (cond (Q3 .leq (wrap .i64 (f.inner + 1)) 255)
 (some (Q3 .leq ((Q1.rows f.kids).length : Int) 255))
 (some false)))))
theorem Q7s {N} {f} {code} {r} (h : U0 N f code = some r) : pU 178 [.agg (Q1.cells f), .int .i64 code] (.bool r) := by
 refine Q2 Z91 ?_;unfold U0 at h;rw [cX] at h;refine cP h Q5p p1 fun v1 h => ?_;apply iU h <;> intro h
 ·refine cP h Qdj (.cons (.p _) (.cons q4 .nil)) fun v4 h => ?_;cases h; exact (.p _)
 refine iL h fun h => ?_;refine iL h fun h => ?_;refine iL h fun h => ?_;exact iB h
def Xz (N : Nat) (k0 : Int → Option Int) (l : List Q1) (s54 : Int) (y56 : Int) : Nat → Bool → Int → Option Int
 | 0, _, _ => none
 | n + 1, all71, s72 =>
  cond (Q3 .lss s72 ((Q1.rows l).length : Int))
  ((idx l s72).bind fun y74 =>
  cond all71
  ((U0 N y74 y56).bind fun v77 =>
  Xz N k0 l s54 y56 n v77 (wrap .i64 (s72 + 1)))
  (Xz N k0 l s54 y56 n false (wrap .i64 (s72 + 1))))
  (cond all71
  (some y56)
  (k0 (wrap .i64 (s54 + 1))))
def X6 (N : Nat) (l : List Q1) (v1 : List Int) : Nat → Int → Option Int
 | 0, _ => none
 | n + 1, s54 =>
  cond (Q3 .lss s54 ((Q8 (cI .i64) v1).length : Int))
  ((idx v1 s54).bind fun y56 =>
  Xz N (X6 N l v1 n) l s54 y56 N true 0)
  (some 0)
def J0 (N : Nat) (kind : Int) (l : List Q1) : Option Int :=
 (Q5h N kind).bind fun v1 =>
 X6 N l v1 N 0
theorem Q5v {N} {kind} {l} {r} (h : J0 N kind l = some r) : pU 144 [.int .i64 kind, .slice 7 (Q1.rows l)] (.int .i64 r) := by
 refine Q2 Z9k ?_;unfold J0 at h;refine cP h Qci p1 fun v1 h => ?_;refine lpH (τ := Int) (fun s54 => (.any :: .p (.slice 7 (Q1.rows l)) :: a8 (.any :: .p (.slice 1 (Q8 (cI .i64) v1)) :: .p (.int .i64 ((Q8 (cI .i64) v1).length : Int)) :: iI s54 :: a16 (a2 (.any :: []))) : List AV)) (fun n0 s54 => X6 N l v1 n0 s54) (0) h fun n0 s54 h => ?_
 first | rw [X6] at h | simp only [X6] at h
 rw [cX] at h;refine iR h fun h => ?_;refine xR h fun y56 h => ?_;refine lpH (τ := Bool × Int) (fun ⟨all71, s72⟩ => (.any :: .p (.slice 7 (Q1.rows l)) :: a4 (iI y56 :: .p (.bool all71) :: a2 (.any :: .p (.slice 1 (Q8 (cI .i64) v1)) :: .p (.int .i64 ((Q8 (cI .i64) v1).length : Int)) :: iI s54 :: a2 (.any :: .p (.slice 7 (Q1.rows l)) :: iI ((Q1.rows l).length : Int) :: iI s72 :: a8 (a4 (.any :: []))))) : List AV)) (fun n1 ⟨all71, s72⟩ => Xz N (X6 N l v1 n0) l s54 y56 n1 all71 s72) (true, 0) h fun n1 ⟨all71, s72⟩ h => ?_
 first | rw [Xz] at h | simp only [Xz] at h
 rw [cX] at h;apply iU h <;> intro h
 ·refine Q1.xR h fun y74 h => ?_;apply iU h <;> intro h
  ·refine cP h Q7s (.cons (Frz.agg' (.cons (.p _) (.cons (.p _) p5))) p1) fun v77 h => ?_;show Exists _;exact ⟨(n1, v77, (wrap .i64 (s72 + 1))), h, Le _, (fun i => i), Z6⟩
  show Exists _;exact ⟨(n1, false, (wrap .i64 (s72 + 1))), h, Le _, (fun i => i), Z6⟩
 refine iL h fun h => ?_;show Exists _;exact ⟨(n0, (wrap .i64 (s54 + 1))), h, Le _, (fun i => i), Z6⟩
def Vz (N : Nat) (f : Q1) : Option Int :=
 (J0 N f.v.Kind [f]).bind fun v1 =>
 some v1
theorem Q2m {N} {f} {r} (h : Vz N f = some r) : pU 106 [.agg (Q1.cells f)] (.int .i64 r) := by
 refine Q2 Zgl ?_;unfold Vz at h;refine cK h Q5v (.cons (.p _) (.cons (Q1.frz_own (l := [f]) rfl trivial sd) .nil)) fun v1 h => ?_;cases h; exact (.p _)
def U5 (rv : Q1 → Int → Option Int) (rz1 : Q1 → Option Int) (N : Nat) (f : Q1) (code : Int) : Option Int :=
 (Q46 N code).bind fun v1 =>
 cond (Q3 .eql v1.1.Kind 25)
 ((rz1 f).bind fun v4 =>
 some v4)
 (cond v1.1.Items
 (cond v1.1.Sized
 (some (wrap .i64 ((wrap .i64 (2 * v1.1.Width)) + f.inner)))
 (some v1.1.Width))
 (cond v1.1.Sized
 (some (wrap .i64 (v1.1.Width + (f.v.Text.length : Int))))
 (some v1.1.Width)))
theorem Q7p {rv : Q1 → Int → Option Int} {rz1 : Q1 → Option Int} (hx1 : ∀ {f} {code} {r}, rv f code = some r → pU 105 [.agg (Q1.cells f), .int .i64 code] (.int .i64 r)) (hy2 : ∀ {f} {r}, rz1 f = some r → pU 142 [.agg (Q1.cells f)] (.int .i64 r)) {N} {f} {code} {r} (h : U5 rv rz1 N f code = some r) : pU 105 [.agg (Q1.cells f), .int .i64 code] (.int .i64 r) := by
 refine Q2 Zeq ?_;unfold U5 at h;rw [cX] at h;refine cP h Q5p p1 fun v1 h => ?_;apply iU h <;> intro h
 ·refine cP h hy2 (.cons (Frz.agg' (.cons (.p _) (.cons (.p _) p5))) .nil) fun v4 h => ?_;cases h; exact (.p _)
 apply iU h <;> intro h
 ·refine oL h fun hc7 h => ?_;refine ifF hc7 ?_;cases h; exact (.p _)
 exact iB h
def Zx (rv : Q1 → Int → Option Int) (N : Nat) (f : Q1) : Nat → Int → Int → Option Int
 | 0, _, _ => none
 | n + 1, n17, s18 =>
  cond (Q3 .lss s18 ((Q1.rows f.kids).length : Int))
  ((idx f.kids s18).bind fun y20 =>
  (Vz N y20).bind fun v22 =>
  (rv y20 v22).bind fun v24 =>
  Zx rv N f n (wrap .i64 (n17 + (wrap .i64 (1 + v24)))) (wrap .i64 (s18 + 1)))
  (some n17)
def Q0m (rv : Q1 → Int → Option Int) (rz1 : Q1 → Option Int) (N : Nat) (f : Q1) : Option Int :=
 Zx rv N f N 0 0
theorem Q6z {rv : Q1 → Int → Option Int} {rz1 : Q1 → Option Int} (hx1 : ∀ {f} {code} {r}, rv f code = some r → pU 105 [.agg (Q1.cells f), .int .i64 code] (.int .i64 r)) (hy2 : ∀ {f} {r}, rz1 f = some r → pU 142 [.agg (Q1.cells f)] (.int .i64 r)) {N} {f} {r} (h : Q0m rv rz1 N f = some r) : pU 142 [.agg (Q1.cells f)] (.int .i64 r) := by
 refine Q2 Zfx ?_;unfold Q0m at h;refine lpH (τ := Int × Int) (fun ⟨n17, s18⟩ => (a2 (.any :: iI n17 :: a2 (.any :: .p (.slice 7 (Q1.rows f.kids)) :: iI ((Q1.rows f.kids).length : Int) :: iI s18 :: a8 (a4 ([])))) : List AV)) (fun n0 ⟨n17, s18⟩ => Zx rv N f n0 n17 s18) (0, 0) h fun n0 ⟨n17, s18⟩ h => ?_
 first | rw [Zx] at h | simp only [Zx] at h
 rw [cX] at h;refine iR h fun h => ?_;refine Q1.xR h fun y20 h => ?_;refine Qa ?_;refine cD h Q2m (.cons (Frz.agg' (.cons (.p _) (.cons (.p _) p5))) .nil) fun v22 h => ?_;refine cD h hx1 (.cons (Frz.agg' (.cons (.p _) (.cons (.p _) p5))) p1) fun v24 h => ?_;show Exists _;exact ⟨(n0, (wrap .i64 (n17 + (wrap .i64 (1 + v24)))), (wrap .i64 (s18 + 1))), h, Le _, (fun i => i), Z6⟩
def Y1 : Nat → (Q1 → Int → Option Int) × (Q1 → Option Int)
 | 0 => (fun _ _ => none, fun _ => none)
 | N + 1 => (U5 ((Y1 N).1) ((Y1 N).2) N, Q0m ((Y1 N).1) ((Y1 N).2) N)
def Y0 (N : Nat) : Q1 → Int → Option Int := (Y1 N).1
def Yh (N : Nat) : Q1 → Option Int := (Y1 N).2
theorem Q2s : ∀ N, (∀ {f : Q1} {code : Int} {r : Int}, (Y1 N).1 f code = some r → pU 105 [.agg (Q1.cells f), .int .i64 code] (.int .i64 r)) ∧ (∀ {f : Q1} {r : Int}, (Y1 N).2 f = some r → pU 142 [.agg (Q1.cells f)] (.int .i64 r)) := by
 intro N
 induction N with
 | zero => exact ⟨(fun h => by simp [Y1] at h), (fun h => by simp [Y1] at h)⟩
 | succ N ih => exact ⟨(fun h => Q7p (N := N) (fun h => ih.1 h) (fun h => ih.2 h) h), (fun h => Q6z (N := N) (fun h => ih.1 h) (fun h => ih.2 h) h)⟩
theorem Q3a {N : Nat} {f : Q1} {code : Int} {r : Int} (h : Y0 N f code = some r) : pU 105 [.agg (Q1.cells f), .int .i64 code] (.int .i64 r) := (Q2s N).1 h
theorem Vw {N : Nat} {f : Q1} {r : Int} (h : Yh N f = some r) : pU 142 [.agg (Q1.cells f)] (.int .i64 r) := (Q2s N).2 h
def Yb (N : Nat) (f : Q1) : Nat → Int → Int → Option Int
 | 0, _, _ => none
 | n + 1, n13, s14 =>
  cond (Q3 .lss s14 ((Q1.rows f.kids).length : Int))
  ((idx f.kids s14).bind fun y16 =>
  (Y0 N y16 f.element).bind fun v18 =>
  Yb N f n (wrap .i64 (n13 + v18)) (wrap .i64 (s14 + 1)))
  (some n13)
def Vh (N : Nat) (f : Q1) : Option Int :=
 Yb N f N 1 0
theorem Q2e {N} {f} {r} (h : Vh N f = some r) : pU 143 [.agg (Q1.cells f)] (.int .i64 r) := by
 refine Q2 Zca ?_;unfold Vh at h;refine lpH (τ := Int × Int) (fun ⟨n13, s14⟩ => (.any :: .ptr 0 0 :: .any :: iI n13 :: a2 (.any :: .p (.slice 7 (Q1.rows f.kids)) :: iI ((Q1.rows f.kids).length : Int) :: iI s14 :: a8 (a2 (.any :: []))) : List AV)) (fun n0 ⟨n13, s14⟩ => Yb N f n0 n13 s14) (1, 0) h fun n0 ⟨n13, s14⟩ h => ?_
 first | rw [Yb] at h | simp only [Yb] at h
 rw [cX] at h;refine iR h fun h => ?_;refine Q1.xR h fun y16 h => ?_;refine cP h Q3a (.cons (Frz.agg' (.cons (.p _) (.cons (.p _) p5))) p1) fun v18 h => ?_;show Exists _;exact ⟨(n0, (wrap .i64 (n13 + v18)), (wrap .i64 (s14 + 1))), h, Le _, (fun i => i), Z6⟩
def Yr (rz : Q0 → Option (Q1)) (N : Nat) (v : Q0) : Nat → Int → (List Q1) → Option (Q1)
 | 0, _, _ => none
 | n + 1, s14, l15 =>
  cond (Q3 .lss s14 ((Q0.rows v.Items).length : Int))
  ((idx v.Items s14).bind fun y17 =>
  (rz y17).bind fun v19 =>
  cond (Nat.ble ((l15.length + 1 + 4096) * 96) 17592186044416) (Yr rz N v n (wrap .i64 (s14 + 1)) (l15 ++ [v19])) none)
  (cond (Q3 .eql v.Kind 24)
  ((J0 N (wrap .i64 v.N') l15).bind fun v23 =>
  cond ((v.Kind : Int) == 22)
  ((Yh N (⟨v, l15, v23, 0⟩ : Q1)).bind fun v26 =>
  some (⟨v, l15, v23, v26⟩ : Q1))
  (cond ((v.Kind : Int) == 23)
  ((Yh N (⟨v, l15, v23, 0⟩ : Q1)).bind fun v29 =>
  some (⟨v, l15, v23, v29⟩ : Q1))
  (cond ((v.Kind : Int) == 24)
  ((Vh N (⟨v, l15, v23, 0⟩ : Q1)).bind fun v32 =>
  some (⟨v, l15, v23, v32⟩ : Q1))
  (some (⟨v, l15, v23, 0⟩ : Q1)))))
  (cond ((v.Kind : Int) == 22)
  ((Yh N (⟨v, l15, 0, 0⟩ : Q1)).bind fun v35 =>
  some (⟨v, l15, 0, v35⟩ : Q1))
  (cond ((v.Kind : Int) == 23)
  ((Yh N (⟨v, l15, 0, 0⟩ : Q1)).bind fun v38 =>
  some (⟨v, l15, 0, v38⟩ : Q1))
  (cond ((v.Kind : Int) == 24)
  ((Vh N (⟨v, l15, 0, 0⟩ : Q1)).bind fun v41 =>
  some (⟨v, l15, 0, v41⟩ : Q1))
  (some (⟨v, l15, 0, 0⟩ : Q1))))))
def Q3p (rz : Q0 → Option (Q1)) (N : Nat) (v : Q0) : Option (Q1) :=
 Yr rz N v N 0 []
theorem Q9s {rz : Q0 → Option (Q1)} (hy1 : ∀ {v} {r}, rz v = some r → pU 104 [.agg (Q0.cells v)] (.agg (Q1.cells r))) {N} {v} {r} (h : Q3p rz N v = some r) : pU 104 [.agg (Q0.cells v)] (.agg (Q1.cells r)) := by
 refine Q2 Z7y ?_;unfold Q3p at h;refine lpA (τ := Int × (List Q1)) (fun ⟨s14, _⟩ => (.any :: .ptr 0 0 :: .ptr 1 0 :: .ptr 2 0 :: a8 (.p (.slice 4 (Q0.rows v.Items)) :: iI ((Q0.rows v.Items).length : Int) :: iI s14 :: a16 (a16 (a4 ([])))) : List AV)) (fun ⟨_, l15⟩ => (.cells (iI v.Kind :: iW v.N' :: iS v.Text :: .p (.slice 4 (Q0.rows v.Items)) :: []) :: .cells (iI 0 :: iW 0 :: iS [] :: .p .nilSlice :: .p .nilSlice :: iI 0 :: iI 0 :: []) :: .cells (iI v.Kind :: iW v.N' :: iS v.Text :: .p (.slice 4 (Q0.rows v.Items)) :: .slice 7 3 0 l15.length :: iI 0 :: iI 0 :: []) :: .cells (Qu Q1.cells l15) :: [] : List AObj)) (fun n0 ⟨s14, l15⟩ => Yr rz N v n0 s14 l15) (0, []) h fun n0 ⟨s14, l15⟩ h => ?_
 first | rw [Yr] at h | simp only [Yr] at h
 rw [cX] at h;apply iU h <;> intro h
 ·refine Q0.xR h fun y17 h => ?_;refine Qa ?_;refine cD h hy1 (.cons q4 .nil) fun v19 h => ?_;obtain ⟨hk21, h⟩ := Q4u h;refine Js (Xe (c := Q1.cells) (e := 7) (fun _ => rfl) sd hk21) ?_;refine Uy (c := Q1.cells) [v19] rfl ?_;show Exists _;exact ⟨(n0, (wrap .i64 (s14 + 1)), (l15 ++ [v19])), h, Le _, (rho [0, 1, 2, 6]), Z6⟩
 apply iU h <;> intro h
 ·refine cK h Q5v (.cons (.p _) (.cons (Q1.frz_own (l := l15) rfl trivial sd) .nil)) fun v23 h => ?_;apply iU h <;> intro h
  ·refine cK h Vw (.cons (Frz.agg' (f4_ (.cons (Q1.frz_own (l := l15) rfl trivial sd) p2))) .nil) fun v26 h => ?_;obtain rfl := Qd h; exact (Frz.agg' (f4_ (.cons (Q1.frz_own (l := l15) rfl trivial sd) p2)))
  apply iU h <;> intro h
  ·refine cK h Vw (.cons (Frz.agg' (f4_ (.cons (Q1.frz_own (l := l15) rfl trivial sd) p2))) .nil) fun v29 h => ?_;obtain rfl := Qd h; exact (Frz.agg' (f4_ (.cons (Q1.frz_own (l := l15) rfl trivial sd) p2)))
  apply iU h <;> intro h
  ·refine cK h Q2e (.cons (Frz.agg' (f4_ (.cons (Q1.frz_own (l := l15) rfl trivial sd) p2))) .nil) fun v32 h => ?_;obtain rfl := Qd h; exact (Frz.agg' (f4_ (.cons (Q1.frz_own (l := l15) rfl trivial sd) p2)))
  obtain rfl := Qd h; exact (Frz.agg' (f4_ (.cons (Q1.frz_own (l := l15) rfl trivial sd) p2)))
 apply iU h <;> intro h
 ·refine cK h Vw (.cons (Frz.agg' (f4_ (.cons (Q1.frz_own (l := l15) rfl trivial sd) p2))) .nil) fun v35 h => ?_;obtain rfl := Qd h; exact (Frz.agg' (f4_ (.cons (Q1.frz_own (l := l15) rfl trivial sd) p2)))
 apply iU h <;> intro h
 ·refine cK h Vw (.cons (Frz.agg' (f4_ (.cons (Q1.frz_own (l := l15) rfl trivial sd) p2))) .nil) fun v38 h => ?_;obtain rfl := Qd h; exact (Frz.agg' (f4_ (.cons (Q1.frz_own (l := l15) rfl trivial sd) p2)))
 apply iU h <;> intro h
 ·refine cK h Q2e (.cons (Frz.agg' (f4_ (.cons (Q1.frz_own (l := l15) rfl trivial sd) p2))) .nil) fun v41 h => ?_;obtain rfl := Qd h; exact (Frz.agg' (f4_ (.cons (Q1.frz_own (l := l15) rfl trivial sd) p2)))
 obtain rfl := Qd h; exact (Frz.agg' (f4_ (.cons (Q1.frz_own (l := l15) rfl trivial sd) p2)))
def Xg : Nat → Q0 → Option (Q1)
 | 0 => fun _ => none
 | N + 1 => Q3p (Xg N) N
theorem Q9y {N} {v} {r} (h : Xg N v = some r) : pU 104 [.agg (Q0.cells v)] (.agg (Q1.cells r)) := by
 induction N generalizing v r with
 | zero => simp [Xg] at h
 | succ N ih => exact Q9s (fun h => ih h) h
def Q1g (_N : Nat) (most : Int) : Option Bool :=
 cond (Q3 .geq most 0)
 (some (Q3 .leq most 32))
 (some false)
theorem Q7r {N} {most} {r} (h : Q1g N most = some r) : pU 99 [.int .i64 most] (.bool r) := by
 refine Q2 k99 ?_;unfold Q1g at h;rw [cX] at h;exact iB h
def Jt (_N : Nat) (v : Q0) : Option Bool :=
 cond (Q4s .neq v.Text [])
 (some false)
 (cond (Q3 .eql v.Kind 24)
 (cond (Q3 .geq v.N' 1)
 (some (Q3 .leq v.N' 24))
 (some false))
 (cond (Q3 .neq v.N' 0)
 (some false)
 (cond (Q3 .eql v.Kind 25)
 (some (Q3 .eql ((Q0.rows v.Items).length : Int) 2))
 (cond (Q3 .eql v.Kind 23)
 (some (Q3 .eql ((((Q0.rows v.Items).length : Int) : Int).tmod 2) 0))
 (some true)))))
theorem Q9x {N} {v} {r} (h : Jt N v = some r) : pU 102 [.agg (Q0.cells v)] (.bool r) := by
 refine Q2 Z9c ?_;unfold Jt at h;rw [cX, cY] at h;refine iL h fun h => ?_;apply iU h <;> intro h
 ·exact iB h
 refine iL h fun h => ?_;refine iL h fun h => ?_;exact iB h
def V6 (_N : Nat) (v : Q0) : Option Bool :=
 cond (Q3 .eql v.Kind 11)
 (cond (Q3 .eql (Jq .u64 (Q4m .u64 v.N' 23) 255) 255)
 (some (Q3 .neq (Gy .u64 v.N' 41) 0))
 (some false))
 (cond (Q3 .eql v.Kind 12)
 (cond (Q3 .eql (Jq .u64 (Q4m .u64 v.N' 52) 2047) 2047)
 (some (Q3 .neq (Gy .u64 v.N' 12) 0))
 (some false))
 (some false))
theorem Q3h {N} {v} {r} (h : V6 N v = some r) : pU 176 [.agg (Q0.cells v)] (.bool r) := by
 refine Q2 Z5p ?_;unfold V6 at h;rw [cX] at h;apply iU h <;> intro h
 ·exact iB h
 refine iR h fun h => ?_;exact iB h
end
end
end Go.Av
