/- The law. Part of a proof of a given statement: for every input the law returns true and the arguments read as before; no condition beyond the given row. -/
import Derived.Test.YtegedmcbfmfjeaaGreatDoorLiftF0
namespace Go.Av
noncomputable section
open Go.Proofs
set_option maxRecDepth 100000
set_option maxHeartbeats 4000000
attribute [local irreducible] V9 Xn Q4u Q4y Qgk Qhv Q7o
section
def U6 (rv : (List UInt8) → Int → Option (Q0 × Int × Int)) (rz : Int → (List UInt8) → Int → Option (Q0 × Int × Int)) (rz1 : (List UInt8) → Int → Option (Q0 × Int × Int)) (ry1 : Qh → (List UInt8) → Int → Option (Q0 × Int × Int)) (N : Nat) (s_0 : List UInt8) (most : Int) : Option (Q0 × Int × Int) :=
 (Xm N most).bind fun v1 =>
 cond (!v1)
 (some ((⟨0, 0, [], []⟩ : Q0), 0, 2))
 (cond (Q1q .eql s_0 [])
 (some ((⟨0, 0, [], []⟩ : Q0), 0, 3))
 ((idx s_0 0).bind fun b5 =>
 cond (Nat.ble 1 s_0.length && Nat.ble s_0.length s_0.length) ((rz (IntKind.wrap .i64 (b5.toNat : Int)) ((s_0.take s_0.length).drop 1) most).bind fun v8 =>
 cond (Q7 .neq v8.2.2 0)
 (some ((⟨0, 0, [], []⟩ : Q0), 0, v8.2.2))
 (some (v8.1, (IntKind.wrap .i64 (v8.2.1 + 1)), 0))) none))
theorem Q3p {rv : (List UInt8) → Int → Option (Q0 × Int × Int)} {rz : Int → (List UInt8) → Int → Option (Q0 × Int × Int)} {rz1 : (List UInt8) → Int → Option (Q0 × Int × Int)} {ry1 : Qh → (List UInt8) → Int → Option (Q0 × Int × Int)} (hv1 : ∀ {s_0} {most} {r}, rv s_0 most = some r → Xe Tryz.prog G1 57 [.str s_0, .int .i64 most] (.tuple [.agg (Q0.cells r.1), .int .i64 r.2.1, .int .i64 r.2.2])) (hx1 : ∀ {code} {s_1} {most} {r}, rz code s_1 most = some r → Xe Tryz.prog G1 71 [.int .i64 code, .str s_1, .int .i64 most] (.tuple [.agg (Q0.cells r.1), .int .i64 r.2.1, .int .i64 r.2.2])) (hy2 : ∀ {s_0} {most} {r}, rz1 s_0 most = some r → Xe Tryz.prog G1 83 [.str s_0, .int .i64 most] (.tuple [.agg (Q0.cells r.1), .int .i64 r.2.1, .int .i64 r.2.2])) (hx2 : ∀ {c} {s_1} {most} {r}, ry1 c s_1 most = some r → Xe Tryz.prog G1 84 [.agg (Qh.cells c), .str s_1, .int .i64 most] (.tuple [.agg (Q0.cells r.1), .int .i64 r.2.1, .int .i64 r.2.2])) {N} {s_0} {most} {r} (h : U6 rv rz rz1 ry1 N s_0 most = some r) : Xe Tryz.prog G1 57 [.str s_0, .int .i64 most] (.tuple [.agg (Q0.cells r.1), .int .i64 r.2.1, .int .i64 r.2.2]) := by
 refine Qc k57 ?_
 unfold U6 at h
 rw [cX, cY] at h
 refine cP h J5 p1 fun v1 h => ?_
 apply iU h <;> intro h
 ·obtain rfl := Qa h; exact (Frz.tuple' (.cons q4n p2))
 ·apply iU h <;> intro h
  ·obtain rfl := Qa h; exact (Frz.tuple' (.cons q4n p2))
  ·refine Qb ?_
   refine xB h fun b5 h => ?_
   refine kU h fun h => ?_
   refine cD h hx1 p3 fun v8 h => ?_
   apply iU h <;> intro h
   ·obtain rfl := Qa h; exact (Frz.tuple' (.cons q4n p2))
   ·obtain rfl := Qa h; exact (Frz.tuple' (.cons q4 p2))
def Wx (rv : (List UInt8) → Int → Option (Q0 × Int × Int)) (rz : Int → (List UInt8) → Int → Option (Q0 × Int × Int)) (rz1 : (List UInt8) → Int → Option (Q0 × Int × Int)) (ry1 : Qh → (List UInt8) → Int → Option (Q0 × Int × Int)) (N : Nat) (code : Int) (s_1 : List UInt8) (most : Int) : Option (Q0 × Int × Int) :=
 (Xm N most).bind fun v1 =>
 cond (!v1)
 (some ((⟨0, 0, [], []⟩ : Q0), 0, 2))
 ((Wo N code).bind fun v4 =>
 cond (!v4.2)
 (some ((⟨0, 0, [], []⟩ : Q0), 0, 8))
 (cond (!v4.1.Items)
 ((J7 N code s_1).bind fun v8 =>
 some (v8.1, v8.2.1, v8.2.2))
 (cond (Q7 .eql most 0)
 (some ((⟨0, 0, [], []⟩ : Q0), 0, 14))
 (cond (Q7 .eql v4.1.Kind 25)
 ((rz1 s_1 most).bind fun v12 =>
 some (v12.1, v12.2.1, v12.2.2))
 (cond (!v4.1.Sized)
 (some ((⟨v4.1.Kind, 0, [], []⟩ : Q0), 0, 0))
 ((ry1 v4.1 s_1 most).bind fun v15 =>
 some (v15.1, v15.2.1, v15.2.2)))))))
theorem Q45 {rv : (List UInt8) → Int → Option (Q0 × Int × Int)} {rz : Int → (List UInt8) → Int → Option (Q0 × Int × Int)} {rz1 : (List UInt8) → Int → Option (Q0 × Int × Int)} {ry1 : Qh → (List UInt8) → Int → Option (Q0 × Int × Int)} (hv1 : ∀ {s_0} {most} {r}, rv s_0 most = some r → Xe Tryz.prog G1 57 [.str s_0, .int .i64 most] (.tuple [.agg (Q0.cells r.1), .int .i64 r.2.1, .int .i64 r.2.2])) (hx1 : ∀ {code} {s_1} {most} {r}, rz code s_1 most = some r → Xe Tryz.prog G1 71 [.int .i64 code, .str s_1, .int .i64 most] (.tuple [.agg (Q0.cells r.1), .int .i64 r.2.1, .int .i64 r.2.2])) (hy2 : ∀ {s_0} {most} {r}, rz1 s_0 most = some r → Xe Tryz.prog G1 83 [.str s_0, .int .i64 most] (.tuple [.agg (Q0.cells r.1), .int .i64 r.2.1, .int .i64 r.2.2])) (hx2 : ∀ {c} {s_1} {most} {r}, ry1 c s_1 most = some r → Xe Tryz.prog G1 84 [.agg (Qh.cells c), .str s_1, .int .i64 most] (.tuple [.agg (Q0.cells r.1), .int .i64 r.2.1, .int .i64 r.2.2])) {N} {code} {s_1} {most} {r} (h : Wx rv rz rz1 ry1 N code s_1 most = some r) : Xe Tryz.prog G1 71 [.int .i64 code, .str s_1, .int .i64 most] (.tuple [.agg (Q0.cells r.1), .int .i64 r.2.1, .int .i64 r.2.2]) := by
 refine Qc k71 ?_
 unfold Wx at h
 rw [cX] at h
 refine cP h J5 p1 fun v1 h => ?_
 apply iU h <;> intro h
 ·obtain rfl := Qa h; exact (Frz.tuple' (.cons q4n p2))
 ·refine cP h Jc p1 fun v4 h => ?_
  apply iU h <;> intro h
  ·obtain rfl := Qa h; exact (Frz.tuple' (.cons q4n p2))
  ·apply iU h <;> intro h
   ·refine cP h Q5z p2 fun v8 h => ?_
    obtain rfl := Qa h; exact (Frz.tuple' (.cons q4 p2))
   ·apply iU h <;> intro h
    ·obtain rfl := Qa h; exact (Frz.tuple' (.cons q4n p2))
    ·apply iU h <;> intro h
     ·refine cP h hy2 p2 fun v12 h => ?_
      obtain rfl := Qa h; exact (Frz.tuple' (.cons q4 p2))
     ·apply iU h <;> intro h
      ·obtain rfl := Qa h; exact (Frz.tuple' (.cons q4n p2))
      ·refine cP h hx2 (.cons (Frz.agg' p5) p2) fun v15 h => ?_
       obtain rfl := Qa h; exact (Frz.tuple' (.cons q4 p2))
def Y5 (rv : (List UInt8) → Int → Option (Q0 × Int × Int)) (N : Nat) (most : Int) : Nat → Int → (List UInt8) → Int → Int → (List Q0) → Option (Q0 × Int × Int)
 | 0, _, _, _, _, _ => none
 | n + 1, s27, c28, c29, c30, l31 =>
  cond (Q7 .lss s27 2)
  ((Z1 N (⟨c28, c29, c30⟩ : Q1)).bind fun v33 =>
  (rv v33.1 (IntKind.wrap .i64 (most - 1))).bind fun v35 =>
  cond (Q7 .eql v35.2.2 0)
  ((Qr N v33.2 v35.2.1).bind fun v38 =>
  cond (Q7 .neq v35.2.2 0)
  (some ((⟨0, 0, [], []⟩ : Q0), 0, v35.2.2))
  (cond (Nat.ble ((l31.length + 1 + 4096) * 56) 17592186044416) (Y5 rv N most n (IntKind.wrap .i64 (s27 + 1)) v38.2.text v38.2.at' v38.2.err (l31 ++ [v35.1])) none))
  (cond (Q7 .neq v35.2.2 0)
  (some ((⟨0, 0, [], []⟩ : Q0), 0, v35.2.2))
  (cond (Nat.ble ((l31.length + 1 + 4096) * 56) 17592186044416) (Y5 rv N most n (IntKind.wrap .i64 (s27 + 1)) v33.2.text v33.2.at' v33.2.err (l31 ++ [v35.1])) none)))
  ((Qs N (⟨c28, c29, c30⟩ : Q1)).bind fun v44 =>
  some ((⟨25, 0, [], l31⟩ : Q0), v44.1, 0))
def We (rv : (List UInt8) → Int → Option (Q0 × Int × Int)) (rz : Int → (List UInt8) → Int → Option (Q0 × Int × Int)) (rz1 : (List UInt8) → Int → Option (Q0 × Int × Int)) (ry1 : Qh → (List UInt8) → Int → Option (Q0 × Int × Int)) (N : Nat) (s_0 : List UInt8) (most : Int) : Option (Q0 × Int × Int) :=
 Y5 rv N most N 0 s_0 0 0 []
theorem Q0s {rv : (List UInt8) → Int → Option (Q0 × Int × Int)} {rz : Int → (List UInt8) → Int → Option (Q0 × Int × Int)} {rz1 : (List UInt8) → Int → Option (Q0 × Int × Int)} {ry1 : Qh → (List UInt8) → Int → Option (Q0 × Int × Int)} (hv1 : ∀ {s_0} {most} {r}, rv s_0 most = some r → Xe Tryz.prog G1 57 [.str s_0, .int .i64 most] (.tuple [.agg (Q0.cells r.1), .int .i64 r.2.1, .int .i64 r.2.2])) (hx1 : ∀ {code} {s_1} {most} {r}, rz code s_1 most = some r → Xe Tryz.prog G1 71 [.int .i64 code, .str s_1, .int .i64 most] (.tuple [.agg (Q0.cells r.1), .int .i64 r.2.1, .int .i64 r.2.2])) (hy2 : ∀ {s_0} {most} {r}, rz1 s_0 most = some r → Xe Tryz.prog G1 83 [.str s_0, .int .i64 most] (.tuple [.agg (Q0.cells r.1), .int .i64 r.2.1, .int .i64 r.2.2])) (hx2 : ∀ {c} {s_1} {most} {r}, ry1 c s_1 most = some r → Xe Tryz.prog G1 84 [.agg (Qh.cells c), .str s_1, .int .i64 most] (.tuple [.agg (Q0.cells r.1), .int .i64 r.2.1, .int .i64 r.2.2])) {N} {s_0} {most} {r} (h : We rv rz rz1 ry1 N s_0 most = some r) : Xe Tryz.prog G1 83 [.str s_0, .int .i64 most] (.tuple [.agg (Q0.cells r.1), .int .i64 r.2.1, .int .i64 r.2.2]) := by
 refine Qc k83 ?_
 unfold We at h
 refine W5 k90 ?_
 refine lpC (τ := Int × (List UInt8) × Int × Int × (List Q0)) (fun ⟨s27, _, _, _, _⟩ => (a4 (.ptr 0 0 :: .any :: .any :: .ptr 2 0 :: a8 (iI s27 :: a16 (a4 (.any :: [])))) : List AV)) (fun ⟨_, c28, c29, c30, l31⟩ => (.cells (iI 25 :: iW 0 :: iS [] :: .slice 4 3 0 l31.length :: []) :: .cells (iS c28 :: iI c29 :: iI c30 :: []) :: .cells (.ptr 1 0 :: iI (IntKind.wrap .i64 (most - 1)) :: []) :: .cells (Yf Q0.cells l31) :: [] : List AObj)) (fun n0 ⟨s27, c28, c29, c30, l31⟩ => Y5 rv N most n0 s27 c28 c29 c30 l31) (0, s_0, 0, 0, []) h (fun i => i) ⟨(rV <| rE rfl <| rW <| rE rfl <| rX <| rE rfl <| rX <| rX <| rV <| rA <| rN), (hC rfl (rE rfl <| rE rfl <| rE rfl <| rS <| rN) <| hE rfl <| hE rfl <| hV lb <| hN), rfl, rfl, (roE rfl <| roE rfl <| roE rfl <| roE (Q2 _ _ _) <| roN)⟩ fun n0 ⟨s27, c28, c29, c30, l31⟩ h => ?_
 simp only [Y5] at h
 rw [cX] at h
 apply iU h <;> intro h
 ·refine W5 k98 ?_
  refine ifT (cF (by decide)) ?_
  refine Qb ?_
  refine dM h Zy rfl p0 fun v33 h => ?_
  refine cD h hv1 p2 fun v35 h => ?_
  apply iU h <;> intro h
  ·refine cM h Qz rfl p1 fun v38 h => ?_
   apply iU h <;> intro h
   ·obtain rfl := Qa h; exact (Frz.tuple' (.cons q4n p2))
   ·obtain ⟨hk41, h⟩ := Jx h
    refine Uw (Wu (c := Q0.cells) (e := 4) (fun _ => rfl) (by first | (simp; done) | (simp [Qv]; done)) hk41) ?_
    refine U1 (c := Q0.cells) [v35.1] rfl ?_
    show Exists _
    exact ⟨(n0, (IntKind.wrap .i64 (s27 + 1)), v38.2.text, v38.2.at', v38.2.err, (l31 ++ [v35.1])), h, Nat.lt_succ_self _, (rho [0, 1, 2, 9]), ⟨(rV <| rE rfl <| rW <| rE rfl <| rX <| rE rfl <| rX <| rX <| rV <| rA <| rN), (hC rfl (rE rfl <| rE rfl <| rE rfl <| rL (by first | (simp; done) | (simp [Qv]; done)) rfl <| rN) <| hE rfl <| hE rfl <| hO rfl <| hN), rfl, rfl, (roE rfl <| roE rfl <| roE rfl <| roE (Q2 _ _ _) <| roN)⟩⟩
  ·apply iU h <;> intro h
   ·obtain rfl := Qa h; exact (Frz.tuple' (.cons q4n p2))
   ·obtain ⟨hk43, h⟩ := Jx h
    refine Uw (Wu (c := Q0.cells) (e := 4) (fun _ => rfl) (by first | (simp; done) | (simp [Qv]; done)) hk43) ?_
    refine U1 (c := Q0.cells) [v35.1] rfl ?_
    show Exists _
    exact ⟨(n0, (IntKind.wrap .i64 (s27 + 1)), v33.2.text, v33.2.at', v33.2.err, (l31 ++ [v35.1])), h, Nat.lt_succ_self _, (rho [0, 1, 2, 9]), ⟨(rV <| rE rfl <| rW <| rE rfl <| rX <| rE rfl <| rX <| rX <| rV <| rA <| rN), (hC rfl (rE rfl <| rE rfl <| rE rfl <| rL (by first | (simp; done) | (simp [Qv]; done)) rfl <| rN) <| hE rfl <| hE rfl <| hO rfl <| hN), rfl, rfl, (roE rfl <| roE rfl <| roE rfl <| roE (Q2 _ _ _) <| roN)⟩⟩
 ·refine Qb ?_
  refine dM h Zz rfl p0 fun v44 h => ?_
  obtain rfl := Qa h; exact (Frz.tuple' (.cons (Frz.agg' (.cons (.p _) (.cons (.p _) (.cons (.p _) (.cons (Q0.frz_own (l := l31) rfl trivial (by first | (simp; done) | (simp [Qv]; done))) .nil))))) p2))
def X4 (rv : (List UInt8) → Int → Option (Q0 × Int × Int)) (rz : Int → (List UInt8) → Int → Option (Q0 × Int × Int)) (N : Nat) (c : Qh) (most : Int) (v9 : (List UInt8) × Q1) (v11 : (Int) × Q1) (v23 : (Int) × Q1) (v25 : Qh × Bool) : Nat → Int → (List UInt8) → Int → Int → (List Q0) → Option (Q0 × Int × Int)
 | 0, _, _, _, _, _ => none
 | n + 1, s86, c87, c88, c89, l90 =>
  cond (Q7 .lss s86 v11.1)
  (cond (Q7 .lss (IntKind.wrap .i64 v23.1) 0)
  ((Z1 N (⟨c87, c88, c89⟩ : Q1)).bind fun v93 =>
  (rv v93.1 (IntKind.wrap .i64 (most - 1))).bind fun v95 =>
  cond (Q7 .eql v95.2.2 0)
  ((Qr N v93.2 v95.2.1).bind fun v98 =>
  cond (Q7 .eql v95.2.2 3)
  (some ((⟨0, 0, [], []⟩ : Q0), 0, 5))
  (cond (Q7 .neq v95.2.2 0)
  (some ((⟨0, 0, [], []⟩ : Q0), 0, v95.2.2))
  (cond (Nat.ble ((l90.length + 1 + 4096) * 56) 17592186044416) (X4 rv rz N c most v9 v11 v23 v25 n (IntKind.wrap .u64 (s86 + 1)) v98.2.text v98.2.at' v98.2.err (l90 ++ [v95.1])) none)))
  (cond (Q7 .eql v95.2.2 3)
  (some ((⟨0, 0, [], []⟩ : Q0), 0, 5))
  (cond (Q7 .neq v95.2.2 0)
  (some ((⟨0, 0, [], []⟩ : Q0), 0, v95.2.2))
  (cond (Nat.ble ((l90.length + 1 + 4096) * 56) 17592186044416) (X4 rv rz N c most v9 v11 v23 v25 n (IntKind.wrap .u64 (s86 + 1)) v93.2.text v93.2.at' v93.2.err (l90 ++ [v95.1])) none))))
  ((Z1 N (⟨c87, c88, c89⟩ : Q1)).bind fun v106 =>
  (rz (IntKind.wrap .i64 v23.1) v106.1 (IntKind.wrap .i64 (most - 1))).bind fun v108 =>
  cond (Q7 .eql v108.2.2 0)
  ((Qr N v106.2 v108.2.1).bind fun v111 =>
  cond (Q7 .eql v108.2.2 3)
  (some ((⟨0, 0, [], []⟩ : Q0), 0, 5))
  (cond (Q7 .neq v108.2.2 0)
  (some ((⟨0, 0, [], []⟩ : Q0), 0, v108.2.2))
  (cond (Nat.ble ((l90.length + 1 + 4096) * 56) 17592186044416) (X4 rv rz N c most v9 v11 v23 v25 n (IntKind.wrap .u64 (s86 + 1)) v111.2.text v111.2.at' v111.2.err (l90 ++ [v108.1])) none)))
  (cond (Q7 .eql v108.2.2 3)
  (some ((⟨0, 0, [], []⟩ : Q0), 0, 5))
  (cond (Q7 .neq v108.2.2 0)
  (some ((⟨0, 0, [], []⟩ : Q0), 0, v108.2.2))
  (cond (Nat.ble ((l90.length + 1 + 4096) * 56) 17592186044416) (X4 rv rz N c most v9 v11 v23 v25 n (IntKind.wrap .u64 (s86 + 1)) v106.2.text v106.2.at' v106.2.err (l90 ++ [v108.1])) none)))))
  ((Z0 N (⟨c87, c88, c89⟩ : Q1)).bind fun v119 =>
  cond (Q7 .neq v119.1 0)
  (some ((⟨0, 0, [], []⟩ : Q0), 0, 5))
  ((Xx N (⟨c.Kind, (IntKind.wrap .u64 v25.1.Kind), [], l90⟩ : Q0)).bind fun v122 =>
  cond (Q7 .neq v122 0)
  (some ((⟨0, 0, [], []⟩ : Q0), 0, v122))
  ((Qs N v9.2).bind fun v125 =>
  some ((⟨c.Kind, (IntKind.wrap .u64 v25.1.Kind), [], l90⟩ : Q0), v125.1, 0))))
def X6 (rv : (List UInt8) → Int → Option (Q0 × Int × Int)) (N : Nat) (c : Qh) (most : Int) (v9 : (List UInt8) × Q1) (v11 : (Int) × Q1) : Nat → Int → (List UInt8) → Int → Int → (List Q0) → Option (Q0 × Int × Int)
 | 0, _, _, _, _, _ => none
 | n + 1, s158, c159, c160, c161, l162 =>
  cond (Q7 .lss s158 v11.1)
  ((Z1 N (⟨c159, c160, c161⟩ : Q1)).bind fun v164 =>
  (rv v164.1 (IntKind.wrap .i64 (most - 1))).bind fun v166 =>
  cond (Q7 .eql v166.2.2 0)
  ((Qr N v164.2 v166.2.1).bind fun v169 =>
  cond (Q7 .eql v166.2.2 3)
  (some ((⟨0, 0, [], []⟩ : Q0), 0, 5))
  (cond (Q7 .neq v166.2.2 0)
  (some ((⟨0, 0, [], []⟩ : Q0), 0, v166.2.2))
  (cond (Nat.ble ((l162.length + 1 + 4096) * 56) 17592186044416) (X6 rv N c most v9 v11 n (IntKind.wrap .u64 (s158 + 1)) v169.2.text v169.2.at' v169.2.err (l162 ++ [v166.1])) none)))
  (cond (Q7 .eql v166.2.2 3)
  (some ((⟨0, 0, [], []⟩ : Q0), 0, 5))
  (cond (Q7 .neq v166.2.2 0)
  (some ((⟨0, 0, [], []⟩ : Q0), 0, v166.2.2))
  (cond (Nat.ble ((l162.length + 1 + 4096) * 56) 17592186044416) (X6 rv N c most v9 v11 n (IntKind.wrap .u64 (s158 + 1)) v164.2.text v164.2.at' v164.2.err (l162 ++ [v166.1])) none))))
  ((Z0 N (⟨c159, c160, c161⟩ : Q1)).bind fun v177 =>
  cond (Q7 .neq v177.1 0)
  (some ((⟨0, 0, [], []⟩ : Q0), 0, 5))
  ((Xx N (⟨c.Kind, 0, [], l162⟩ : Q0)).bind fun v180 =>
  cond (Q7 .neq v180 0)
  (some ((⟨0, 0, [], []⟩ : Q0), 0, v180))
  ((Qs N v9.2).bind fun v183 =>
  some ((⟨c.Kind, 0, [], l162⟩ : Q0), v183.1, 0))))
def Zv (rv : (List UInt8) → Int → Option (Q0 × Int × Int)) (rz : Int → (List UInt8) → Int → Option (Q0 × Int × Int)) (N : Nat) (c : Qh) (most : Int) (v9 : (List UInt8) × Q1) (v11 : (Int) × Q1) (v189 : (Int) × Q1) (v191 : Qh × Bool) : Nat → Int → (List UInt8) → Int → Int → (List Q0) → Option (Q0 × Int × Int)
 | 0, _, _, _, _, _ => none
 | n + 1, s252, c253, c254, c255, l256 =>
  cond (Q7 .lss s252 v11.1)
  (cond (Q7 .lss (IntKind.wrap .i64 v189.1) 0)
  ((Z1 N (⟨c253, c254, c255⟩ : Q1)).bind fun v259 =>
  (rv v259.1 (IntKind.wrap .i64 (most - 1))).bind fun v261 =>
  cond (Q7 .eql v261.2.2 0)
  ((Qr N v259.2 v261.2.1).bind fun v264 =>
  cond (Q7 .eql v261.2.2 3)
  (some ((⟨0, 0, [], []⟩ : Q0), 0, 5))
  (cond (Q7 .neq v261.2.2 0)
  (some ((⟨0, 0, [], []⟩ : Q0), 0, v261.2.2))
  (cond (Nat.ble ((l256.length + 1 + 4096) * 56) 17592186044416) (Zv rv rz N c most v9 v11 v189 v191 n (IntKind.wrap .u64 (s252 + 1)) v264.2.text v264.2.at' v264.2.err (l256 ++ [v261.1])) none)))
  (cond (Q7 .eql v261.2.2 3)
  (some ((⟨0, 0, [], []⟩ : Q0), 0, 5))
  (cond (Q7 .neq v261.2.2 0)
  (some ((⟨0, 0, [], []⟩ : Q0), 0, v261.2.2))
  (cond (Nat.ble ((l256.length + 1 + 4096) * 56) 17592186044416) (Zv rv rz N c most v9 v11 v189 v191 n (IntKind.wrap .u64 (s252 + 1)) v259.2.text v259.2.at' v259.2.err (l256 ++ [v261.1])) none))))
  ((Z1 N (⟨c253, c254, c255⟩ : Q1)).bind fun v272 =>
  (rz (IntKind.wrap .i64 v189.1) v272.1 (IntKind.wrap .i64 (most - 1))).bind fun v274 =>
  cond (Q7 .eql v274.2.2 0)
  ((Qr N v272.2 v274.2.1).bind fun v277 =>
  cond (Q7 .eql v274.2.2 3)
  (some ((⟨0, 0, [], []⟩ : Q0), 0, 5))
  (cond (Q7 .neq v274.2.2 0)
  (some ((⟨0, 0, [], []⟩ : Q0), 0, v274.2.2))
  (cond (Nat.ble ((l256.length + 1 + 4096) * 56) 17592186044416) (Zv rv rz N c most v9 v11 v189 v191 n (IntKind.wrap .u64 (s252 + 1)) v277.2.text v277.2.at' v277.2.err (l256 ++ [v274.1])) none)))
  (cond (Q7 .eql v274.2.2 3)
  (some ((⟨0, 0, [], []⟩ : Q0), 0, 5))
  (cond (Q7 .neq v274.2.2 0)
  (some ((⟨0, 0, [], []⟩ : Q0), 0, v274.2.2))
  (cond (Nat.ble ((l256.length + 1 + 4096) * 56) 17592186044416) (Zv rv rz N c most v9 v11 v189 v191 n (IntKind.wrap .u64 (s252 + 1)) v272.2.text v272.2.at' v272.2.err (l256 ++ [v274.1])) none)))))
  ((Z0 N (⟨c253, c254, c255⟩ : Q1)).bind fun v285 =>
  cond (Q7 .neq v285.1 0)
  (some ((⟨0, 0, [], []⟩ : Q0), 0, 5))
  ((Xx N (⟨c.Kind, (IntKind.wrap .u64 v191.1.Kind), [], l256⟩ : Q0)).bind fun v288 =>
  cond (Q7 .neq v288 0)
  (some ((⟨0, 0, [], []⟩ : Q0), 0, v288))
  ((Qs N v9.2).bind fun v291 =>
  some ((⟨c.Kind, (IntKind.wrap .u64 v191.1.Kind), [], l256⟩ : Q0), v291.1, 0))))
def X5 (rv : (List UInt8) → Int → Option (Q0 × Int × Int)) (N : Nat) (c : Qh) (most : Int) (v9 : (List UInt8) × Q1) (v11 : (Int) × Q1) : Nat → Int → (List UInt8) → Int → Int → (List Q0) → Option (Q0 × Int × Int)
 | 0, _, _, _, _, _ => none
 | n + 1, s324, c325, c326, c327, l328 =>
  cond (Q7 .lss s324 v11.1)
  ((Z1 N (⟨c325, c326, c327⟩ : Q1)).bind fun v330 =>
  (rv v330.1 (IntKind.wrap .i64 (most - 1))).bind fun v332 =>
  cond (Q7 .eql v332.2.2 0)
  ((Qr N v330.2 v332.2.1).bind fun v335 =>
  cond (Q7 .eql v332.2.2 3)
  (some ((⟨0, 0, [], []⟩ : Q0), 0, 5))
  (cond (Q7 .neq v332.2.2 0)
  (some ((⟨0, 0, [], []⟩ : Q0), 0, v332.2.2))
  (cond (Nat.ble ((l328.length + 1 + 4096) * 56) 17592186044416) (X5 rv N c most v9 v11 n (IntKind.wrap .u64 (s324 + 1)) v335.2.text v335.2.at' v335.2.err (l328 ++ [v332.1])) none)))
  (cond (Q7 .eql v332.2.2 3)
  (some ((⟨0, 0, [], []⟩ : Q0), 0, 5))
  (cond (Q7 .neq v332.2.2 0)
  (some ((⟨0, 0, [], []⟩ : Q0), 0, v332.2.2))
  (cond (Nat.ble ((l328.length + 1 + 4096) * 56) 17592186044416) (X5 rv N c most v9 v11 n (IntKind.wrap .u64 (s324 + 1)) v330.2.text v330.2.at' v330.2.err (l328 ++ [v332.1])) none))))
  ((Z0 N (⟨c325, c326, c327⟩ : Q1)).bind fun v343 =>
  cond (Q7 .neq v343.1 0)
  (some ((⟨0, 0, [], []⟩ : Q0), 0, 5))
  ((Xx N (⟨c.Kind, 0, [], l328⟩ : Q0)).bind fun v346 =>
  cond (Q7 .neq v346 0)
  (some ((⟨0, 0, [], []⟩ : Q0), 0, v346))
  ((Qs N v9.2).bind fun v349 =>
  some ((⟨c.Kind, 0, [], l328⟩ : Q0), v349.1, 0))))
def V2 (rv : (List UInt8) → Int → Option (Q0 × Int × Int)) (rz : Int → (List UInt8) → Int → Option (Q0 × Int × Int)) (rz1 : (List UInt8) → Int → Option (Q0 × Int × Int)) (ry1 : Qh → (List UInt8) → Int → Option (Q0 × Int × Int)) (N : Nat) (c : Qh) (s_1 : List UInt8) (most : Int) : Option (Q0 × Int × Int) :=
 (Qy N (⟨s_1, 0, 0⟩ : Q1) c.Width).bind fun v1 =>
 (Qn N v1.2).bind fun v3 =>
 cond (Q7 .neq v3.1 0)
 (some ((⟨0, 0, [], []⟩ : Q0), 0, 3))
 ((Z0 N v3.2).bind fun v6 =>
 cond (Q7 .gtr v1.1 (IntKind.wrap .u64 v6.1))
 (some ((⟨0, 0, [], []⟩ : Q0), 0, 3))
 ((Qr N v6.2 (IntKind.wrap .i64 v1.1)).bind fun v9 =>
 (Qy N (⟨v9.1, 0, 0⟩ : Q1) c.Width).bind fun v11 =>
 (Qn N v11.2).bind fun v13 =>
 cond (Q7 .neq v13.1 0)
 (some ((⟨0, 0, [], []⟩ : Q0), 0, 5))
 (cond (Q7 .gtr v11.1 1000)
 (some ((⟨0, 0, [], []⟩ : Q0), 0, 4))
 (cond (Q7 .eql c.Kind 23)
 (cond (Q7 .neq ((v11.1 : Int).tmod 2) 0)
 (some ((⟨0, 0, [], []⟩ : Q0), 0, 5))
 (cond (Q7 .eql c.Kind 24)
 ((Z0 N v13.2).bind fun v20 =>
 cond (Q7 .eql v20.1 0)
 (some ((⟨0, 0, [], []⟩ : Q0), 0, 5))
 ((Qy N v20.2 1).bind fun v23 =>
 (Wo N (IntKind.wrap .i64 v23.1)).bind fun v25 =>
 cond (!v25.2)
 (some ((⟨0, 0, [], []⟩ : Q0), 0, 8))
 (cond (Q7 .eql (IntKind.wrap .i64 v23.1) 0)
 (some ((⟨0, 0, [], []⟩ : Q0), 0, 8))
 (X4 rv rz N c most v9 v11 v23 v25 N 0 v23.2.text v23.2.at' v23.2.err []))))
 (X6 rv N c most v9 v11 N 0 v13.2.text v13.2.at' v13.2.err [])))
 (cond (Q7 .eql c.Kind 24)
 ((Z0 N v13.2).bind fun v186 =>
 cond (Q7 .eql v186.1 0)
 (some ((⟨0, 0, [], []⟩ : Q0), 0, 5))
 ((Qy N v186.2 1).bind fun v189 =>
 (Wo N (IntKind.wrap .i64 v189.1)).bind fun v191 =>
 cond (!v191.2)
 (some ((⟨0, 0, [], []⟩ : Q0), 0, 8))
 (cond (Q7 .eql (IntKind.wrap .i64 v189.1) 0)
 (some ((⟨0, 0, [], []⟩ : Q0), 0, 8))
 (Zv rv rz N c most v9 v11 v189 v191 N 0 v189.2.text v189.2.at' v189.2.err []))))
 (X5 rv N c most v9 v11 N 0 v13.2.text v13.2.at' v13.2.err []))))))
theorem Q31 {rv : (List UInt8) → Int → Option (Q0 × Int × Int)} {rz : Int → (List UInt8) → Int → Option (Q0 × Int × Int)} {rz1 : (List UInt8) → Int → Option (Q0 × Int × Int)} {ry1 : Qh → (List UInt8) → Int → Option (Q0 × Int × Int)} (hv1 : ∀ {s_0} {most} {r}, rv s_0 most = some r → Xe Tryz.prog G1 57 [.str s_0, .int .i64 most] (.tuple [.agg (Q0.cells r.1), .int .i64 r.2.1, .int .i64 r.2.2])) (hx1 : ∀ {code} {s_1} {most} {r}, rz code s_1 most = some r → Xe Tryz.prog G1 71 [.int .i64 code, .str s_1, .int .i64 most] (.tuple [.agg (Q0.cells r.1), .int .i64 r.2.1, .int .i64 r.2.2])) (hy2 : ∀ {s_0} {most} {r}, rz1 s_0 most = some r → Xe Tryz.prog G1 83 [.str s_0, .int .i64 most] (.tuple [.agg (Q0.cells r.1), .int .i64 r.2.1, .int .i64 r.2.2])) (hx2 : ∀ {c} {s_1} {most} {r}, ry1 c s_1 most = some r → Xe Tryz.prog G1 84 [.agg (Qh.cells c), .str s_1, .int .i64 most] (.tuple [.agg (Q0.cells r.1), .int .i64 r.2.1, .int .i64 r.2.2])) {N} {c} {s_1} {most} {r} (h : V2 rv rz rz1 ry1 N c s_1 most = some r) : Xe Tryz.prog G1 84 [.agg (Qh.cells c), .str s_1, .int .i64 most] (.tuple [.agg (Q0.cells r.1), .int .i64 r.2.1, .int .i64 r.2.2]) := by
 refine Qc k84 ?_
 unfold V2 at h
 rw [cX] at h
 refine W5 k90 ?_
 refine cM h Yg rfl p1 fun v1 h => ?_
 refine cM h Zg rfl p0 fun v3 h => ?_
 apply iU h <;> intro h
 ·obtain rfl := Qa h; exact (Frz.tuple' (.cons q4n p2))
 ·refine cM h Zx rfl p0 fun v6 h => ?_
  apply iU h <;> intro h
  ·obtain rfl := Qa h; exact (Frz.tuple' (.cons q4n p2))
  ·refine cM h Qz rfl p1 fun v9 h => ?_
   refine W5 k90 ?_
   refine cM h Yg rfl p1 fun v11 h => ?_
   refine cM h Zg rfl p0 fun v13 h => ?_
   apply iU h <;> intro h
   ·obtain rfl := Qa h; exact (Frz.tuple' (.cons q4n p2))
   ·apply iU h <;> intro h
    ·obtain rfl := Qa h; exact (Frz.tuple' (.cons q4n p2))
    ·apply iU h <;> intro h
     ·apply iU h <;> intro h
      ·obtain rfl := Qa h; exact (Frz.tuple' (.cons q4n p2))
      ·apply iU h <;> intro h
       ·refine cM h Zx rfl p0 fun v20 h => ?_
        apply iU h <;> intro h
        ·obtain rfl := Qa h; exact (Frz.tuple' (.cons q4n p2))
        ·refine cM h Yg rfl p1 fun v23 h => ?_
         refine cP h Jc p1 fun v25 h => ?_
         apply iU h <;> intro h
         ·obtain rfl := Qa h; exact (Frz.tuple' (.cons q4n p2))
         ·apply iU h <;> intro h
          ·obtain rfl := Qa h; exact (Frz.tuple' (.cons q4n p2))
          ·refine lpC (τ := Int × (List UInt8) × Int × Int × (List Q0)) (fun ⟨s86, _, _, _, _⟩ => (a4 (a2 (.ptr 1 0 :: .any :: .any :: .ptr 2 0 :: .any :: .ptr 4 0 :: .any :: iI (IntKind.wrap .i64 v23.1) :: a16 (a16 (a16 (a16 (a16 (a2 (.any :: iW v11.1 :: iW s86 :: a16 (a16 (a2 ([]))))))))))) : List AV)) (fun ⟨_, c87, c88, c89, l90⟩ => (.cells (iI c.Code :: iI c.Kind :: iI c.Width :: .p (.bool c.Sized) :: .p (.bool c.Items) :: []) :: .cells (iI c.Kind :: iW (IntKind.wrap .u64 v25.1.Kind) :: iS [] :: .slice 4 6 0 l90.length :: []) :: .cells (iS v9.2.text :: iI v9.2.at' :: iI v9.2.err :: []) :: .cells (iS c87 :: iI c88 :: iI c89 :: []) :: .cells (.ptr 3 0 :: iI (IntKind.wrap .i64 (most - 1)) :: []) :: .cells (iI v25.1.Code :: iI v25.1.Kind :: iI v25.1.Width :: .p (.bool v25.1.Sized) :: .p (.bool v25.1.Items) :: []) :: .cells (Yf Q0.cells l90) :: [] : List AObj)) (fun n0 ⟨s86, c87, c88, c89, l90⟩ => X4 rv rz N c most v9 v11 v23 v25 n0 s86 c87 c88 c89 l90) (0, v23.2.text, v23.2.at', v23.2.err, []) h (fun i => i) ⟨(rV <| rW <| rE rfl <| rW <| rE rfl <| rA <| rE rfl <| rA <| rE rfl <| rX <| rX <| rX <| rX <| rX <| rX <| rX <| rX <| rX <| rX <| rW <| rA <| rE rfl <| rE rfl <| rX <| rX <| rX <| rX <| rW <| rN), (hE rfl <| hC rfl (rE rfl <| rE rfl <| rE rfl <| rS <| rN) <| hE rfl <| hE rfl <| hE rfl <| hE rfl <| hV lb <| hN), rfl, rfl, (roE rfl <| roE rfl <| roE rfl <| roE rfl <| roE rfl <| roE rfl <| roE (Q2 _ _ _) <| roN)⟩ fun n0 ⟨s86, c87, c88, c89, l90⟩ h => ?_
           simp only [X4] at h
           rw [cX] at h
           apply iU h <;> intro h
           ·refine W5 k98 ?_
            apply iU h <;> intro h
            ·refine Qb ?_
             refine dM h Zy rfl p0 fun v93 h => ?_
             refine cD h hv1 p2 fun v95 h => ?_
             apply iU h <;> intro h
             ·refine cM h Qz rfl p1 fun v98 h => ?_
              apply iU h <;> intro h
              ·refine ifT (cF (by decide)) ?_
               obtain rfl := Qa h; exact (Frz.tuple' (.cons q4n p2))
              ·apply iU h <;> intro h
               ·obtain rfl := Qa h; exact (Frz.tuple' (.cons q4n p2))
               ·obtain ⟨hk102, h⟩ := Jx h
                refine Uw (Wu (c := Q0.cells) (e := 4) (fun _ => rfl) (by first | (simp; done) | (simp [Qv]; done)) hk102) ?_
                refine U1 (c := Q0.cells) [v95.1] rfl ?_
                show Exists _
                exact ⟨(n0, (IntKind.wrap .u64 (s86 + 1)), v98.2.text, v98.2.at', v98.2.err, (l90 ++ [v95.1])), h, Nat.lt_succ_self _, (rho [0, 1, 2, 3, 4, 5, 12]), ⟨(rV <| rW <| rE rfl <| rW <| rE rfl <| rA <| rE rfl <| rA <| rE rfl <| rX <| rX <| rX <| rX <| rX <| rX <| rX <| rX <| rX <| rX <| rW <| rA <| rE rfl <| rE rfl <| rX <| rX <| rX <| rX <| rW <| rN), (hE rfl <| hC rfl (rE rfl <| rE rfl <| rE rfl <| rL (by first | (simp; done) | (simp [Qv]; done)) rfl <| rN) <| hE rfl <| hE rfl <| hE rfl <| hE rfl <| hO rfl <| hN), rfl, rfl, (roE rfl <| roE rfl <| roE rfl <| roE rfl <| roE rfl <| roE rfl <| roE (Q2 _ _ _) <| roN)⟩⟩
             ·apply iU h <;> intro h
              ·refine ifT (cF (by decide)) ?_
               obtain rfl := Qa h; exact (Frz.tuple' (.cons q4n p2))
              ·apply iU h <;> intro h
               ·obtain rfl := Qa h; exact (Frz.tuple' (.cons q4n p2))
               ·obtain ⟨hk105, h⟩ := Jx h
                refine Uw (Wu (c := Q0.cells) (e := 4) (fun _ => rfl) (by first | (simp; done) | (simp [Qv]; done)) hk105) ?_
                refine U1 (c := Q0.cells) [v95.1] rfl ?_
                show Exists _
                exact ⟨(n0, (IntKind.wrap .u64 (s86 + 1)), v93.2.text, v93.2.at', v93.2.err, (l90 ++ [v95.1])), h, Nat.lt_succ_self _, (rho [0, 1, 2, 3, 4, 5, 12]), ⟨(rV <| rW <| rE rfl <| rW <| rE rfl <| rA <| rE rfl <| rA <| rE rfl <| rX <| rX <| rX <| rX <| rX <| rX <| rX <| rX <| rX <| rX <| rW <| rA <| rE rfl <| rE rfl <| rX <| rX <| rX <| rX <| rW <| rN), (hE rfl <| hC rfl (rE rfl <| rE rfl <| rE rfl <| rL (by first | (simp; done) | (simp [Qv]; done)) rfl <| rN) <| hE rfl <| hE rfl <| hE rfl <| hE rfl <| hO rfl <| hN), rfl, rfl, (roE rfl <| roE rfl <| roE rfl <| roE rfl <| roE rfl <| roE rfl <| roE (Q2 _ _ _) <| roN)⟩⟩
            ·refine Qb ?_
             refine dM h Zy rfl p0 fun v106 h => ?_
             refine cD h hx1 p3 fun v108 h => ?_
             apply iU h <;> intro h
             ·refine cM h Qz rfl p1 fun v111 h => ?_
              apply iU h <;> intro h
              ·refine ifT (cF (by decide)) ?_
               obtain rfl := Qa h; exact (Frz.tuple' (.cons q4n p2))
              ·apply iU h <;> intro h
               ·obtain rfl := Qa h; exact (Frz.tuple' (.cons q4n p2))
               ·obtain ⟨hk115, h⟩ := Jx h
                refine Uw (Wu (c := Q0.cells) (e := 4) (fun _ => rfl) (by first | (simp; done) | (simp [Qv]; done)) hk115) ?_
                refine U1 (c := Q0.cells) [v108.1] rfl ?_
                show Exists _
                exact ⟨(n0, (IntKind.wrap .u64 (s86 + 1)), v111.2.text, v111.2.at', v111.2.err, (l90 ++ [v108.1])), h, Nat.lt_succ_self _, (rho [0, 1, 2, 3, 4, 5, 12]), ⟨(rV <| rW <| rE rfl <| rW <| rE rfl <| rA <| rE rfl <| rA <| rE rfl <| rX <| rX <| rX <| rX <| rX <| rX <| rX <| rX <| rX <| rX <| rW <| rA <| rE rfl <| rE rfl <| rX <| rX <| rX <| rX <| rW <| rN), (hE rfl <| hC rfl (rE rfl <| rE rfl <| rE rfl <| rL (by first | (simp; done) | (simp [Qv]; done)) rfl <| rN) <| hE rfl <| hE rfl <| hE rfl <| hE rfl <| hO rfl <| hN), rfl, rfl, (roE rfl <| roE rfl <| roE rfl <| roE rfl <| roE rfl <| roE rfl <| roE (Q2 _ _ _) <| roN)⟩⟩
             ·apply iU h <;> intro h
              ·refine ifT (cF (by decide)) ?_
               obtain rfl := Qa h; exact (Frz.tuple' (.cons q4n p2))
              ·apply iU h <;> intro h
               ·obtain rfl := Qa h; exact (Frz.tuple' (.cons q4n p2))
               ·obtain ⟨hk118, h⟩ := Jx h
                refine Uw (Wu (c := Q0.cells) (e := 4) (fun _ => rfl) (by first | (simp; done) | (simp [Qv]; done)) hk118) ?_
                refine U1 (c := Q0.cells) [v108.1] rfl ?_
                show Exists _
                exact ⟨(n0, (IntKind.wrap .u64 (s86 + 1)), v106.2.text, v106.2.at', v106.2.err, (l90 ++ [v108.1])), h, Nat.lt_succ_self _, (rho [0, 1, 2, 3, 4, 5, 12]), ⟨(rV <| rW <| rE rfl <| rW <| rE rfl <| rA <| rE rfl <| rA <| rE rfl <| rX <| rX <| rX <| rX <| rX <| rX <| rX <| rX <| rX <| rX <| rW <| rA <| rE rfl <| rE rfl <| rX <| rX <| rX <| rX <| rW <| rN), (hE rfl <| hC rfl (rE rfl <| rE rfl <| rE rfl <| rL (by first | (simp; done) | (simp [Qv]; done)) rfl <| rN) <| hE rfl <| hE rfl <| hE rfl <| hE rfl <| hO rfl <| hN), rfl, rfl, (roE rfl <| roE rfl <| roE rfl <| roE rfl <| roE rfl <| roE rfl <| roE (Q2 _ _ _) <| roN)⟩⟩
           ·refine cM h Zx rfl p0 fun v119 h => ?_
            apply iU h <;> intro h
            ·obtain rfl := Qa h; exact (Frz.tuple' (.cons q4n p2))
            ·refine cK h Vy (.cons (Frz.agg' (.cons (.p _) (.cons (.p _) (.cons (.p _) (.cons (Q0.frz_own (l := l90) rfl trivial (by first | (simp; done) | (simp [Qv]; done))) .nil))))) .nil) fun v122 h => ?_
             apply iU h <;> intro h
             ·obtain rfl := Qa h; exact (Frz.tuple' (.cons q4n p2))
             ·refine Qb ?_
              refine dM h Zz rfl p0 fun v125 h => ?_
              obtain rfl := Qa h; exact (Frz.tuple' (.cons (Frz.agg' (.cons (.p _) (.cons (.p _) (.cons (.p _) (.cons (Q0.frz_own (l := l90) rfl trivial (by first | (simp; done) | (simp [Qv]; done))) .nil))))) p2))
       ·refine lpC (τ := Int × (List UInt8) × Int × Int × (List Q0)) (fun ⟨s158, _, _, _, _⟩ => (a4 (a2 (.ptr 1 0 :: .any :: .any :: .ptr 2 0 :: .any :: .ptr 4 0 :: .any :: iI (-1) :: a16 (a16 (a16 (a16 (a16 (a2 (.any :: iW v11.1 :: iW s158 :: a16 (a16 (a2 ([]))))))))))) : List AV)) (fun ⟨_, c159, c160, c161, l162⟩ => (.cells (iI c.Code :: iI c.Kind :: iI c.Width :: .p (.bool c.Sized) :: .p (.bool c.Items) :: []) :: .cells (iI c.Kind :: iW 0 :: iS [] :: .slice 4 5 0 l162.length :: []) :: .cells (iS v9.2.text :: iI v9.2.at' :: iI v9.2.err :: []) :: .cells (iS c159 :: iI c160 :: iI c161 :: []) :: .cells (.ptr 3 0 :: iI (IntKind.wrap .i64 (most - 1)) :: []) :: .cells (Yf Q0.cells l162) :: [] : List AObj)) (fun n1 ⟨s158, c159, c160, c161, l162⟩ => X6 rv N c most v9 v11 n1 s158 c159 c160 c161 l162) (0, v13.2.text, v13.2.at', v13.2.err, []) h (fun i => i) ⟨(rV <| rW <| rE rfl <| rW <| rE rfl <| rA <| rE rfl <| rA <| rE rfl <| rX <| rX <| rX <| rX <| rX <| rX <| rX <| rX <| rX <| rX <| rW <| rA <| rE rfl <| rE rfl <| rX <| rX <| rX <| rX <| rW <| rN), (hE rfl <| hC rfl (rE rfl <| rE rfl <| rE rfl <| rS <| rN) <| hE rfl <| hE rfl <| hE rfl <| hV lb <| hN), rfl, rfl, (roE rfl <| roE rfl <| roE rfl <| roE rfl <| roE rfl <| roE (Q2 _ _ _) <| roN)⟩ fun n1 ⟨s158, c159, c160, c161, l162⟩ h => ?_
        simp only [X6] at h
        rw [cX] at h
        apply iU h <;> intro h
        ·refine W5 k98 ?_
         refine ifT (cF (by decide)) ?_
         refine Qb ?_
         refine dM h Zy rfl p0 fun v164 h => ?_
         refine cD h hv1 p2 fun v166 h => ?_
         apply iU h <;> intro h
         ·refine cM h Qz rfl p1 fun v169 h => ?_
          apply iU h <;> intro h
          ·refine ifT (cF (by decide)) ?_
           obtain rfl := Qa h; exact (Frz.tuple' (.cons q4n p2))
          ·apply iU h <;> intro h
           ·obtain rfl := Qa h; exact (Frz.tuple' (.cons q4n p2))
           ·obtain ⟨hk173, h⟩ := Jx h
            refine Uw (Wu (c := Q0.cells) (e := 4) (fun _ => rfl) (by first | (simp; done) | (simp [Qv]; done)) hk173) ?_
            refine U1 (c := Q0.cells) [v166.1] rfl ?_
            show Exists _
            exact ⟨(n1, (IntKind.wrap .u64 (s158 + 1)), v169.2.text, v169.2.at', v169.2.err, (l162 ++ [v166.1])), h, Nat.lt_succ_self _, (rho [0, 1, 2, 3, 4, 11]), ⟨(rV <| rW <| rE rfl <| rW <| rE rfl <| rA <| rE rfl <| rA <| rE rfl <| rX <| rX <| rX <| rX <| rX <| rX <| rX <| rX <| rX <| rX <| rW <| rA <| rE rfl <| rE rfl <| rX <| rX <| rX <| rX <| rW <| rN), (hE rfl <| hC rfl (rE rfl <| rE rfl <| rE rfl <| rL (by first | (simp; done) | (simp [Qv]; done)) rfl <| rN) <| hE rfl <| hE rfl <| hE rfl <| hO rfl <| hN), rfl, rfl, (roE rfl <| roE rfl <| roE rfl <| roE rfl <| roE rfl <| roE (Q2 _ _ _) <| roN)⟩⟩
         ·apply iU h <;> intro h
          ·refine ifT (cF (by decide)) ?_
           obtain rfl := Qa h; exact (Frz.tuple' (.cons q4n p2))
          ·apply iU h <;> intro h
           ·obtain rfl := Qa h; exact (Frz.tuple' (.cons q4n p2))
           ·obtain ⟨hk176, h⟩ := Jx h
            refine Uw (Wu (c := Q0.cells) (e := 4) (fun _ => rfl) (by first | (simp; done) | (simp [Qv]; done)) hk176) ?_
            refine U1 (c := Q0.cells) [v166.1] rfl ?_
            show Exists _
            exact ⟨(n1, (IntKind.wrap .u64 (s158 + 1)), v164.2.text, v164.2.at', v164.2.err, (l162 ++ [v166.1])), h, Nat.lt_succ_self _, (rho [0, 1, 2, 3, 4, 11]), ⟨(rV <| rW <| rE rfl <| rW <| rE rfl <| rA <| rE rfl <| rA <| rE rfl <| rX <| rX <| rX <| rX <| rX <| rX <| rX <| rX <| rX <| rX <| rW <| rA <| rE rfl <| rE rfl <| rX <| rX <| rX <| rX <| rW <| rN), (hE rfl <| hC rfl (rE rfl <| rE rfl <| rE rfl <| rL (by first | (simp; done) | (simp [Qv]; done)) rfl <| rN) <| hE rfl <| hE rfl <| hE rfl <| hO rfl <| hN), rfl, rfl, (roE rfl <| roE rfl <| roE rfl <| roE rfl <| roE rfl <| roE (Q2 _ _ _) <| roN)⟩⟩
        ·refine cM h Zx rfl p0 fun v177 h => ?_
         apply iU h <;> intro h
         ·obtain rfl := Qa h; exact (Frz.tuple' (.cons q4n p2))
         ·refine cK h Vy (.cons (Frz.agg' (.cons (.p _) (.cons (.p _) (.cons (.p _) (.cons (Q0.frz_own (l := l162) rfl trivial (by first | (simp; done) | (simp [Qv]; done))) .nil))))) .nil) fun v180 h => ?_
          apply iU h <;> intro h
          ·obtain rfl := Qa h; exact (Frz.tuple' (.cons q4n p2))
          ·refine Qb ?_
           refine dM h Zz rfl p0 fun v183 h => ?_
           obtain rfl := Qa h; exact (Frz.tuple' (.cons (Frz.agg' (.cons (.p _) (.cons (.p _) (.cons (.p _) (.cons (Q0.frz_own (l := l162) rfl trivial (by first | (simp; done) | (simp [Qv]; done))) .nil))))) p2))
     ·apply iU h <;> intro h
      ·refine cM h Zx rfl p0 fun v186 h => ?_
       apply iU h <;> intro h
       ·obtain rfl := Qa h; exact (Frz.tuple' (.cons q4n p2))
       ·refine cM h Yg rfl p1 fun v189 h => ?_
        refine cP h Jc p1 fun v191 h => ?_
        apply iU h <;> intro h
        ·obtain rfl := Qa h; exact (Frz.tuple' (.cons q4n p2))
        ·apply iU h <;> intro h
         ·obtain rfl := Qa h; exact (Frz.tuple' (.cons q4n p2))
         ·refine lpC (τ := Int × (List UInt8) × Int × Int × (List Q0)) (fun ⟨s252, _, _, _, _⟩ => (a4 (a2 (.ptr 1 0 :: .any :: .any :: .ptr 2 0 :: .any :: .ptr 4 0 :: .any :: iI (IntKind.wrap .i64 v189.1) :: a16 (a16 (a16 (a16 (a16 (a2 (.any :: iW v11.1 :: iW s252 :: a16 (a16 (a2 ([]))))))))))) : List AV)) (fun ⟨_, c253, c254, c255, l256⟩ => (.cells (iI c.Code :: iI c.Kind :: iI c.Width :: .p (.bool c.Sized) :: .p (.bool c.Items) :: []) :: .cells (iI c.Kind :: iW (IntKind.wrap .u64 v191.1.Kind) :: iS [] :: .slice 4 6 0 l256.length :: []) :: .cells (iS v9.2.text :: iI v9.2.at' :: iI v9.2.err :: []) :: .cells (iS c253 :: iI c254 :: iI c255 :: []) :: .cells (.ptr 3 0 :: iI (IntKind.wrap .i64 (most - 1)) :: []) :: .cells (iI v191.1.Code :: iI v191.1.Kind :: iI v191.1.Width :: .p (.bool v191.1.Sized) :: .p (.bool v191.1.Items) :: []) :: .cells (Yf Q0.cells l256) :: [] : List AObj)) (fun n2 ⟨s252, c253, c254, c255, l256⟩ => Zv rv rz N c most v9 v11 v189 v191 n2 s252 c253 c254 c255 l256) (0, v189.2.text, v189.2.at', v189.2.err, []) h (fun i => i) ⟨(rV <| rW <| rE rfl <| rW <| rE rfl <| rA <| rE rfl <| rA <| rE rfl <| rX <| rX <| rX <| rX <| rX <| rX <| rX <| rX <| rX <| rX <| rW <| rA <| rE rfl <| rE rfl <| rX <| rX <| rX <| rX <| rW <| rN), (hE rfl <| hC rfl (rE rfl <| rE rfl <| rE rfl <| rS <| rN) <| hE rfl <| hE rfl <| hE rfl <| hE rfl <| hV lb <| hN), rfl, rfl, (roE rfl <| roE rfl <| roE rfl <| roE rfl <| roE rfl <| roE rfl <| roE (Q2 _ _ _) <| roN)⟩ fun n2 ⟨s252, c253, c254, c255, l256⟩ h => ?_
          simp only [Zv] at h
          rw [cX] at h
          apply iU h <;> intro h
          ·refine W5 k98 ?_
           apply iU h <;> intro h
           ·refine Qb ?_
            refine dM h Zy rfl p0 fun v259 h => ?_
            refine cD h hv1 p2 fun v261 h => ?_
            apply iU h <;> intro h
            ·refine cM h Qz rfl p1 fun v264 h => ?_
             apply iU h <;> intro h
             ·refine ifT (cF (by decide)) ?_
              obtain rfl := Qa h; exact (Frz.tuple' (.cons q4n p2))
             ·apply iU h <;> intro h
              ·obtain rfl := Qa h; exact (Frz.tuple' (.cons q4n p2))
              ·obtain ⟨hk268, h⟩ := Jx h
               refine Uw (Wu (c := Q0.cells) (e := 4) (fun _ => rfl) (by first | (simp; done) | (simp [Qv]; done)) hk268) ?_
               refine U1 (c := Q0.cells) [v261.1] rfl ?_
               show Exists _
               exact ⟨(n2, (IntKind.wrap .u64 (s252 + 1)), v264.2.text, v264.2.at', v264.2.err, (l256 ++ [v261.1])), h, Nat.lt_succ_self _, (rho [0, 1, 2, 3, 4, 5, 12]), ⟨(rV <| rW <| rE rfl <| rW <| rE rfl <| rA <| rE rfl <| rA <| rE rfl <| rX <| rX <| rX <| rX <| rX <| rX <| rX <| rX <| rX <| rX <| rW <| rA <| rE rfl <| rE rfl <| rX <| rX <| rX <| rX <| rW <| rN), (hE rfl <| hC rfl (rE rfl <| rE rfl <| rE rfl <| rL (by first | (simp; done) | (simp [Qv]; done)) rfl <| rN) <| hE rfl <| hE rfl <| hE rfl <| hE rfl <| hO rfl <| hN), rfl, rfl, (roE rfl <| roE rfl <| roE rfl <| roE rfl <| roE rfl <| roE rfl <| roE (Q2 _ _ _) <| roN)⟩⟩
            ·apply iU h <;> intro h
             ·refine ifT (cF (by decide)) ?_
              obtain rfl := Qa h; exact (Frz.tuple' (.cons q4n p2))
             ·apply iU h <;> intro h
              ·obtain rfl := Qa h; exact (Frz.tuple' (.cons q4n p2))
              ·obtain ⟨hk271, h⟩ := Jx h
               refine Uw (Wu (c := Q0.cells) (e := 4) (fun _ => rfl) (by first | (simp; done) | (simp [Qv]; done)) hk271) ?_
               refine U1 (c := Q0.cells) [v261.1] rfl ?_
               show Exists _
               exact ⟨(n2, (IntKind.wrap .u64 (s252 + 1)), v259.2.text, v259.2.at', v259.2.err, (l256 ++ [v261.1])), h, Nat.lt_succ_self _, (rho [0, 1, 2, 3, 4, 5, 12]), ⟨(rV <| rW <| rE rfl <| rW <| rE rfl <| rA <| rE rfl <| rA <| rE rfl <| rX <| rX <| rX <| rX <| rX <| rX <| rX <| rX <| rX <| rX <| rW <| rA <| rE rfl <| rE rfl <| rX <| rX <| rX <| rX <| rW <| rN), (hE rfl <| hC rfl (rE rfl <| rE rfl <| rE rfl <| rL (by first | (simp; done) | (simp [Qv]; done)) rfl <| rN) <| hE rfl <| hE rfl <| hE rfl <| hE rfl <| hO rfl <| hN), rfl, rfl, (roE rfl <| roE rfl <| roE rfl <| roE rfl <| roE rfl <| roE rfl <| roE (Q2 _ _ _) <| roN)⟩⟩
           ·refine Qb ?_
            refine dM h Zy rfl p0 fun v272 h => ?_
            refine cD h hx1 p3 fun v274 h => ?_
            apply iU h <;> intro h
            ·refine cM h Qz rfl p1 fun v277 h => ?_
             apply iU h <;> intro h
             ·refine ifT (cF (by decide)) ?_
              obtain rfl := Qa h; exact (Frz.tuple' (.cons q4n p2))
             ·apply iU h <;> intro h
              ·obtain rfl := Qa h; exact (Frz.tuple' (.cons q4n p2))
              ·obtain ⟨hk281, h⟩ := Jx h
               refine Uw (Wu (c := Q0.cells) (e := 4) (fun _ => rfl) (by first | (simp; done) | (simp [Qv]; done)) hk281) ?_
               refine U1 (c := Q0.cells) [v274.1] rfl ?_
               show Exists _
               exact ⟨(n2, (IntKind.wrap .u64 (s252 + 1)), v277.2.text, v277.2.at', v277.2.err, (l256 ++ [v274.1])), h, Nat.lt_succ_self _, (rho [0, 1, 2, 3, 4, 5, 12]), ⟨(rV <| rW <| rE rfl <| rW <| rE rfl <| rA <| rE rfl <| rA <| rE rfl <| rX <| rX <| rX <| rX <| rX <| rX <| rX <| rX <| rX <| rX <| rW <| rA <| rE rfl <| rE rfl <| rX <| rX <| rX <| rX <| rW <| rN), (hE rfl <| hC rfl (rE rfl <| rE rfl <| rE rfl <| rL (by first | (simp; done) | (simp [Qv]; done)) rfl <| rN) <| hE rfl <| hE rfl <| hE rfl <| hE rfl <| hO rfl <| hN), rfl, rfl, (roE rfl <| roE rfl <| roE rfl <| roE rfl <| roE rfl <| roE rfl <| roE (Q2 _ _ _) <| roN)⟩⟩
            ·apply iU h <;> intro h
             ·refine ifT (cF (by decide)) ?_
              obtain rfl := Qa h; exact (Frz.tuple' (.cons q4n p2))
             ·apply iU h <;> intro h
              ·obtain rfl := Qa h; exact (Frz.tuple' (.cons q4n p2))
              ·obtain ⟨hk284, h⟩ := Jx h
               refine Uw (Wu (c := Q0.cells) (e := 4) (fun _ => rfl) (by first | (simp; done) | (simp [Qv]; done)) hk284) ?_
               refine U1 (c := Q0.cells) [v274.1] rfl ?_
               show Exists _
               exact ⟨(n2, (IntKind.wrap .u64 (s252 + 1)), v272.2.text, v272.2.at', v272.2.err, (l256 ++ [v274.1])), h, Nat.lt_succ_self _, (rho [0, 1, 2, 3, 4, 5, 12]), ⟨(rV <| rW <| rE rfl <| rW <| rE rfl <| rA <| rE rfl <| rA <| rE rfl <| rX <| rX <| rX <| rX <| rX <| rX <| rX <| rX <| rX <| rX <| rW <| rA <| rE rfl <| rE rfl <| rX <| rX <| rX <| rX <| rW <| rN), (hE rfl <| hC rfl (rE rfl <| rE rfl <| rE rfl <| rL (by first | (simp; done) | (simp [Qv]; done)) rfl <| rN) <| hE rfl <| hE rfl <| hE rfl <| hE rfl <| hO rfl <| hN), rfl, rfl, (roE rfl <| roE rfl <| roE rfl <| roE rfl <| roE rfl <| roE rfl <| roE (Q2 _ _ _) <| roN)⟩⟩
          ·refine cM h Zx rfl p0 fun v285 h => ?_
           apply iU h <;> intro h
           ·obtain rfl := Qa h; exact (Frz.tuple' (.cons q4n p2))
           ·refine cK h Vy (.cons (Frz.agg' (.cons (.p _) (.cons (.p _) (.cons (.p _) (.cons (Q0.frz_own (l := l256) rfl trivial (by first | (simp; done) | (simp [Qv]; done))) .nil))))) .nil) fun v288 h => ?_
            apply iU h <;> intro h
            ·obtain rfl := Qa h; exact (Frz.tuple' (.cons q4n p2))
            ·refine Qb ?_
             refine dM h Zz rfl p0 fun v291 h => ?_
             obtain rfl := Qa h; exact (Frz.tuple' (.cons (Frz.agg' (.cons (.p _) (.cons (.p _) (.cons (.p _) (.cons (Q0.frz_own (l := l256) rfl trivial (by first | (simp; done) | (simp [Qv]; done))) .nil))))) p2))
      ·refine lpC (τ := Int × (List UInt8) × Int × Int × (List Q0)) (fun ⟨s324, _, _, _, _⟩ => (a4 (a2 (.ptr 1 0 :: .any :: .any :: .ptr 2 0 :: .any :: .ptr 4 0 :: .any :: iI (-1) :: a16 (a16 (a16 (a16 (a16 (a2 (.any :: iW v11.1 :: iW s324 :: a16 (a16 (a2 ([]))))))))))) : List AV)) (fun ⟨_, c325, c326, c327, l328⟩ => (.cells (iI c.Code :: iI c.Kind :: iI c.Width :: .p (.bool c.Sized) :: .p (.bool c.Items) :: []) :: .cells (iI c.Kind :: iW 0 :: iS [] :: .slice 4 5 0 l328.length :: []) :: .cells (iS v9.2.text :: iI v9.2.at' :: iI v9.2.err :: []) :: .cells (iS c325 :: iI c326 :: iI c327 :: []) :: .cells (.ptr 3 0 :: iI (IntKind.wrap .i64 (most - 1)) :: []) :: .cells (Yf Q0.cells l328) :: [] : List AObj)) (fun n3 ⟨s324, c325, c326, c327, l328⟩ => X5 rv N c most v9 v11 n3 s324 c325 c326 c327 l328) (0, v13.2.text, v13.2.at', v13.2.err, []) h (fun i => i) ⟨(rV <| rW <| rE rfl <| rW <| rE rfl <| rA <| rE rfl <| rA <| rE rfl <| rX <| rX <| rX <| rX <| rX <| rX <| rX <| rX <| rX <| rX <| rW <| rA <| rE rfl <| rE rfl <| rX <| rX <| rX <| rX <| rW <| rN), (hE rfl <| hC rfl (rE rfl <| rE rfl <| rE rfl <| rS <| rN) <| hE rfl <| hE rfl <| hE rfl <| hV lb <| hN), rfl, rfl, (roE rfl <| roE rfl <| roE rfl <| roE rfl <| roE rfl <| roE (Q2 _ _ _) <| roN)⟩ fun n3 ⟨s324, c325, c326, c327, l328⟩ h => ?_
       simp only [X5] at h
       rw [cX] at h
       apply iU h <;> intro h
       ·refine W5 k98 ?_
        refine ifT (cF (by decide)) ?_
        refine Qb ?_
        refine dM h Zy rfl p0 fun v330 h => ?_
        refine cD h hv1 p2 fun v332 h => ?_
        apply iU h <;> intro h
        ·refine cM h Qz rfl p1 fun v335 h => ?_
         apply iU h <;> intro h
         ·refine ifT (cF (by decide)) ?_
          obtain rfl := Qa h; exact (Frz.tuple' (.cons q4n p2))
         ·apply iU h <;> intro h
          ·obtain rfl := Qa h; exact (Frz.tuple' (.cons q4n p2))
          ·obtain ⟨hk339, h⟩ := Jx h
           refine Uw (Wu (c := Q0.cells) (e := 4) (fun _ => rfl) (by first | (simp; done) | (simp [Qv]; done)) hk339) ?_
           refine U1 (c := Q0.cells) [v332.1] rfl ?_
           show Exists _
           exact ⟨(n3, (IntKind.wrap .u64 (s324 + 1)), v335.2.text, v335.2.at', v335.2.err, (l328 ++ [v332.1])), h, Nat.lt_succ_self _, (rho [0, 1, 2, 3, 4, 11]), ⟨(rV <| rW <| rE rfl <| rW <| rE rfl <| rA <| rE rfl <| rA <| rE rfl <| rX <| rX <| rX <| rX <| rX <| rX <| rX <| rX <| rX <| rX <| rW <| rA <| rE rfl <| rE rfl <| rX <| rX <| rX <| rX <| rW <| rN), (hE rfl <| hC rfl (rE rfl <| rE rfl <| rE rfl <| rL (by first | (simp; done) | (simp [Qv]; done)) rfl <| rN) <| hE rfl <| hE rfl <| hE rfl <| hO rfl <| hN), rfl, rfl, (roE rfl <| roE rfl <| roE rfl <| roE rfl <| roE rfl <| roE (Q2 _ _ _) <| roN)⟩⟩
        ·apply iU h <;> intro h
         ·refine ifT (cF (by decide)) ?_
          obtain rfl := Qa h; exact (Frz.tuple' (.cons q4n p2))
         ·apply iU h <;> intro h
          ·obtain rfl := Qa h; exact (Frz.tuple' (.cons q4n p2))
          ·obtain ⟨hk342, h⟩ := Jx h
           refine Uw (Wu (c := Q0.cells) (e := 4) (fun _ => rfl) (by first | (simp; done) | (simp [Qv]; done)) hk342) ?_
           refine U1 (c := Q0.cells) [v332.1] rfl ?_
           show Exists _
           exact ⟨(n3, (IntKind.wrap .u64 (s324 + 1)), v330.2.text, v330.2.at', v330.2.err, (l328 ++ [v332.1])), h, Nat.lt_succ_self _, (rho [0, 1, 2, 3, 4, 11]), ⟨(rV <| rW <| rE rfl <| rW <| rE rfl <| rA <| rE rfl <| rA <| rE rfl <| rX <| rX <| rX <| rX <| rX <| rX <| rX <| rX <| rX <| rX <| rW <| rA <| rE rfl <| rE rfl <| rX <| rX <| rX <| rX <| rW <| rN), (hE rfl <| hC rfl (rE rfl <| rE rfl <| rE rfl <| rL (by first | (simp; done) | (simp [Qv]; done)) rfl <| rN) <| hE rfl <| hE rfl <| hE rfl <| hO rfl <| hN), rfl, rfl, (roE rfl <| roE rfl <| roE rfl <| roE rfl <| roE rfl <| roE (Q2 _ _ _) <| roN)⟩⟩
       ·refine cM h Zx rfl p0 fun v343 h => ?_
        apply iU h <;> intro h
        ·obtain rfl := Qa h; exact (Frz.tuple' (.cons q4n p2))
        ·refine cK h Vy (.cons (Frz.agg' (.cons (.p _) (.cons (.p _) (.cons (.p _) (.cons (Q0.frz_own (l := l328) rfl trivial (by first | (simp; done) | (simp [Qv]; done))) .nil))))) .nil) fun v346 h => ?_
         apply iU h <;> intro h
         ·obtain rfl := Qa h; exact (Frz.tuple' (.cons q4n p2))
         ·refine Qb ?_
          refine dM h Zz rfl p0 fun v349 h => ?_
          obtain rfl := Qa h; exact (Frz.tuple' (.cons (Frz.agg' (.cons (.p _) (.cons (.p _) (.cons (.p _) (.cons (Q0.frz_own (l := l328) rfl trivial (by first | (simp; done) | (simp [Qv]; done))) .nil))))) p2))
def Qj : Nat → ((List UInt8) → Int → Option (Q0 × Int × Int)) × (Int → (List UInt8) → Int → Option (Q0 × Int × Int)) × ((List UInt8) → Int → Option (Q0 × Int × Int)) × (Qh → (List UInt8) → Int → Option (Q0 × Int × Int))
 | 0 => (fun _ _ => none, fun _ _ _ => none, fun _ _ => none, fun _ _ _ => none)
 | N + 1 => (U6 ((Qj N).1) ((Qj N).2.1) ((Qj N).2.2.1) ((Qj N).2.2.2) N, Wx ((Qj N).1) ((Qj N).2.1) ((Qj N).2.2.1) ((Qj N).2.2.2) N, We ((Qj N).1) ((Qj N).2.1) ((Qj N).2.2.1) ((Qj N).2.2.2) N, V2 ((Qj N).1) ((Qj N).2.1) ((Qj N).2.2.1) ((Qj N).2.2.2) N)
def Yo (N : Nat) : (List UInt8) → Int → Option (Q0 × Int × Int) := (Qj N).1
def W1 (N : Nat) : Int → (List UInt8) → Int → Option (Q0 × Int × Int) := (Qj N).2.1
def Wf (N : Nat) : (List UInt8) → Int → Option (Q0 × Int × Int) := (Qj N).2.2.1
def Vq (N : Nat) : Qh → (List UInt8) → Int → Option (Q0 × Int × Int) := (Qj N).2.2.2
theorem Q4g : ∀ N, (∀ {s_0 : List UInt8} {most : Int} {r : Q0 × Int × Int}, (Qj N).1 s_0 most = some r → Xe Tryz.prog G1 57 [.str s_0, .int .i64 most] (.tuple [.agg (Q0.cells r.1), .int .i64 r.2.1, .int .i64 r.2.2])) ∧ (∀ {code : Int} {s_1 : List UInt8} {most : Int} {r : Q0 × Int × Int}, (Qj N).2.1 code s_1 most = some r → Xe Tryz.prog G1 71 [.int .i64 code, .str s_1, .int .i64 most] (.tuple [.agg (Q0.cells r.1), .int .i64 r.2.1, .int .i64 r.2.2])) ∧ (∀ {s_0 : List UInt8} {most : Int} {r : Q0 × Int × Int}, (Qj N).2.2.1 s_0 most = some r → Xe Tryz.prog G1 83 [.str s_0, .int .i64 most] (.tuple [.agg (Q0.cells r.1), .int .i64 r.2.1, .int .i64 r.2.2])) ∧ (∀ {c : Qh} {s_1 : List UInt8} {most : Int} {r : Q0 × Int × Int}, (Qj N).2.2.2 c s_1 most = some r → Xe Tryz.prog G1 84 [.agg (Qh.cells c), .str s_1, .int .i64 most] (.tuple [.agg (Q0.cells r.1), .int .i64 r.2.1, .int .i64 r.2.2])) := by
 intro N
 induction N with
 | zero => exact ⟨(fun h => by simp [Qj] at h), (fun h => by simp [Qj] at h), (fun h => by simp [Qj] at h), (fun h => by simp [Qj] at h)⟩
 | succ N ih => exact ⟨(fun h => Q3p (N := N) (fun h => ih.1 h) (fun h => ih.2.1 h) (fun h => ih.2.2.1 h) (fun h => ih.2.2.2 h) h), (fun h => Q45 (N := N) (fun h => ih.1 h) (fun h => ih.2.1 h) (fun h => ih.2.2.1 h) (fun h => ih.2.2.2 h) h), (fun h => Q0s (N := N) (fun h => ih.1 h) (fun h => ih.2.1 h) (fun h => ih.2.2.1 h) (fun h => ih.2.2.2 h) h), (fun h => Q31 (N := N) (fun h => ih.1 h) (fun h => ih.2.1 h) (fun h => ih.2.2.1 h) (fun h => ih.2.2.2 h) h)⟩
theorem Q3q {N : Nat} {s_0 : List UInt8} {most : Int} {r : Q0 × Int × Int} (h : Yo N s_0 most = some r) : Xe Tryz.prog G1 57 [.str s_0, .int .i64 most] (.tuple [.agg (Q0.cells r.1), .int .i64 r.2.1, .int .i64 r.2.2]) := (Q4g N).1 h
def W8 (N : Nat) (s_0 : List UInt8) (l : Qe) (v1 : Int × Int) (b5 : UInt8) (b7 : UInt8) (v10 : Int) : Nat → (List UInt8) → (List Q0) → Option (Q9 × Int × Int)
 | 0, _, _ => none
 | n + 1, left34, l35 =>
  cond (Q1q .neq left34 [])
  (cond (Q7 .eql (l35.length : Int) 1000)
  (some ((⟨0, 0, [], []⟩ : Q9), 0, 4))
  ((Yo N left34 l.MaxDepth).bind fun v38 =>
  cond (Q7 .eql v38.2.2 3)
  (some ((⟨0, 0, [], []⟩ : Q9), 0, 5))
  (cond (Q7 .neq v38.2.2 0)
  (some ((⟨0, 0, [], []⟩ : Q9), 0, v38.2.2))
  (cond (Nat.ble ((l35.length + 1 + 4096) * 56) 17592186044416) (cond (decide (0 ≤ v38.2.1)) (cond (Nat.ble v38.2.1.toNat left34.length && Nat.ble left34.length left34.length) (W8 N s_0 l v1 b5 b7 v10 n ((left34.take left34.length).drop v38.2.1.toNat) (l35 ++ [v38.1])) none) none) none))))
  (some ((⟨(IntKind.wrap .i64 (b7.toNat : Int)), (IntKind.wrap .i64 v10), ((s_0.take ((IntKind.wrap .i64 (4 * (IntKind.wrap .i64 (b5.toNat : Int)))).toNat)).drop 8), l35⟩ : Q9), v1.1, 0))
def U7 (N : Nat) (s_0 : List UInt8) (l : Qe) : Option (Q9 × Int × Int) :=
 (X2 N s_0 l).bind fun v1 =>
 cond (Q7 .neq v1.2 0)
 (some ((⟨0, 0, [], []⟩ : Q9), 0, v1.2))
 (cond (Q7 .lss (s_0.length : Int) v1.1)
 (some ((⟨0, 0, [], []⟩ : Q9), 0, 3))
 ((idx s_0 4).bind fun b5 =>
 (idx s_0 5).bind fun b7 =>
 cond (Nat.ble 6 8 && Nat.ble 8 s_0.length) ((Uu N ((s_0.take 8).drop 6)).bind fun v10 =>
 cond (decide (0 ≤ (IntKind.wrap .i64 (4 * (IntKind.wrap .i64 (b5.toNat : Int)))))) (cond (Nat.ble 8 ((IntKind.wrap .i64 (4 * (IntKind.wrap .i64 (b5.toNat : Int)))).toNat) && Nat.ble ((IntKind.wrap .i64 (4 * (IntKind.wrap .i64 (b5.toNat : Int)))).toNat) s_0.length) (cond (decide (0 ≤ v1.1)) (cond (Nat.ble (IntKind.wrap .i64 (4 * (IntKind.wrap .i64 (b5.toNat : Int)))).toNat v1.1.toNat && Nat.ble v1.1.toNat s_0.length) (W8 N s_0 l v1 b5 b7 v10 N ((s_0.take v1.1.toNat).drop ((IntKind.wrap .i64 (4 * (IntKind.wrap .i64 (b5.toNat : Int)))).toNat)) []) none) none) none) none) none))
theorem Q40 {N} {s_0} {l} {r} (h : U7 N s_0 l = some r) : Xe Tryz.prog G1 49 [.str s_0, .agg (Qe.cells l)] (.tuple [.agg (Q9.cells r.1), .int .i64 r.2.1, .int .i64 r.2.2]) := by
 refine Qc k49 ?_
 unfold U7 at h
 rw [cX] at h
 refine cP h V7 (.cons (.p _) (.cons q2 .nil)) fun v1 h => ?_
 apply iU h <;> intro h
 ·obtain rfl := Qa h; exact (Frz.tuple' (.cons q4n p2))
 ·apply iU h <;> intro h
  ·obtain rfl := Qa h; exact (Frz.tuple' (.cons q4n p2))
  ·refine xB h fun b5 h => ?_
   refine Qb ?_
   refine xB h fun b7 h => ?_
   refine kU h fun h => ?_
   refine cD h Q04 p1 fun v10 h => ?_
   obtain ⟨hk12, h⟩ := Jx h
   refine Uw hk12 ?_
   refine kU h fun h => ?_
   refine Uw hk12 ?_
   refine kU h fun h => ?_
   refine kU h fun h => ?_
   refine lpC (τ := (List UInt8) × (List Q0)) (fun ⟨left34, _⟩ => (a2 (.any :: .ptr 0 0 :: .ptr 1 0 :: iI v1.1 :: .any :: .any :: iS left34 :: a16 (a16 (a16 (a16 (a4 (.any :: [])))))) : List AV)) (fun ⟨_, l35⟩ => (.cells (iI l.MaxPacket :: iI l.MaxDepth :: []) :: .cells (iI (IntKind.wrap .i64 (b7.toNat : Int)) :: iI (IntKind.wrap .i64 v10) :: .p (.str ((s_0.take ((IntKind.wrap .i64 (4 * (IntKind.wrap .i64 (b5.toNat : Int)))).toNat)).drop 8)) :: .slice 4 2 0 l35.length :: []) :: .cells (Yf Q0.cells l35) :: [] : List AObj)) (fun n0 ⟨left34, l35⟩ => W8 N s_0 l v1 b5 b7 v10 n0 left34 l35) (((s_0.take v1.1.toNat).drop ((IntKind.wrap .i64 (4 * (IntKind.wrap .i64 (b5.toNat : Int)))).toNat)), []) h (fun i => i) ⟨(rW <| rA <| rE rfl <| rE rfl <| rE rfl <| rW <| rE rfl <| rX <| rX <| rX <| rX <| rX <| rX <| rX <| rX <| rV <| rA <| rN), (hE rfl <| hC rfl (rE rfl <| rE rfl <| rE rfl <| rS <| rN) <| hV lb <| hN), rfl, rfl, (roE rfl <| roE rfl <| roE (Q2 _ _ _) <| roN)⟩ fun n0 ⟨left34, l35⟩ h => ?_
   simp only [W8] at h
   rw [cX, cY] at h
   apply iU h <;> intro h
   ·apply iU h <;> intro h
    ·obtain rfl := Qa h; exact (Frz.tuple' (.cons q4n p2))
    ·refine cP h Q3q p2 fun v38 h => ?_
     apply iU h <;> intro h
     ·refine ifT (cF (by decide)) ?_
      obtain rfl := Qa h; exact (Frz.tuple' (.cons q4n p2))
     ·apply iU h <;> intro h
      ·obtain rfl := Qa h; exact (Frz.tuple' (.cons q4n p2))
      ·obtain ⟨hk42, h⟩ := Jx h
       refine Uw (Wu (c := Q0.cells) (e := 4) (fun _ => rfl) (by first | (simp; done) | (simp [Qv]; done)) hk42) ?_
       refine U1 (c := Q0.cells) [v38.1] rfl ?_
       refine kU h fun h => ?_
       refine kU h fun h => ?_
       show Exists _
       exact ⟨(n0, ((left34.take left34.length).drop v38.2.1.toNat), (l35 ++ [v38.1])), h, Nat.lt_succ_self _, (rho [0, 1, 5]), ⟨(rW <| rA <| rE rfl <| rE rfl <| rE rfl <| rW <| rE rfl <| rX <| rX <| rX <| rX <| rX <| rX <| rX <| rX <| rV <| rA <| rN), (hE rfl <| hC rfl (rE rfl <| rE rfl <| rE rfl <| rL (by first | (simp; done) | (simp [Qv]; done)) rfl <| rN) <| hO rfl <| hN), rfl, rfl, (roE rfl <| roE rfl <| roE (Q2 _ _ _) <| roN)⟩⟩
   ·obtain rfl := Qa h; exact (Frz.tuple' (.cons (Frz.agg' (.cons (.p _) (.cons (.p _) (.cons (.p _) (.cons (Q0.frz_own (l := l35) rfl trivial (by first | (simp; done) | (simp [Qv]; done))) .nil))))) p2))
def Yv (_N : Nat) (x : Q5) (e : Int) : Option ((Bool) × Q5) :=
 some (false, (⟨x.l, [], 0, x.at', 0, e, x.next, x.out⟩ : Q5))
theorem Ud {N} {x} {e} {r} (h : Yv N x e = some r) : GC Tryz.prog G1 41 (.ptr 0 0 :: .p (.int .i64 e) :: []) (.cells (.p (.int .i64 x.l.MaxPacket) :: .p (.int .i64 x.l.MaxDepth) :: .slice 1 1 0 x.kept.length :: .p (.int .i64 x.from') :: .p (.int .i64 x.at') :: .p (.int .i64 x.need) :: .p (.int .i64 x.e) :: .func (.func x.next) [.ptr 0 0] [] :: .slice 4 2 0 x.out.length :: []) :: .cells (Yf (cI .u8) x.kept) :: .cells (Yf Q9.cells x.out) :: []) (.p (.bool r.1)) (.cells (.p (.int .i64 r.2.l.MaxPacket) :: .p (.int .i64 r.2.l.MaxDepth) :: .slice 1 3 0 r.2.kept.length :: .p (.int .i64 r.2.from') :: .p (.int .i64 r.2.at') :: .p (.int .i64 r.2.need) :: .p (.int .i64 r.2.e) :: .func (.func r.2.next) [.ptr 0 0] [] :: .slice 4 4 0 r.2.out.length :: []) :: .dead :: .dead :: .cells (Yf (cI .u8) r.2.kept) :: .cells (Yf Q9.cells r.2.out) :: []) := by
 refine Q2j k41 (Nat.le_of_ble_eq_true rfl) ?_
 unfold Yv at h
 obtain rfl := Qa h
 show Exists _
 exact ⟨(rho [0, 1, 2, 3, 2]), ⟨(rE rfl <| rN), (hC rfl (rE rfl <| rE rfl <| rS <| rE rfl <| rE rfl <| rE rfl <| rE rfl <| rE rfl <| rE rfl <| rN) <| hD <| hD <| hV lb <| hO rfl <| hN), rfl, rfl, (roE rfl <| roE rfl <| roE rfl <| roE (Q2 _ _ _) <| roE (Q2 _ _ _) <| roN)⟩⟩
def Y4 (N : Nat) (x : Q5) : Option ((Bool) × Q5) :=
 cond (decide (0 ≤ x.from')) (cond (Nat.ble x.from'.toNat x.kept.length && Nat.ble x.kept.length x.kept.length) (cond (Q7 .lss (((x.kept.length - x.from'.toNat) : Nat) : Int) x.need)
 (some (false, x))
 (cond (decide (0 ≤ x.need)) (cond (Nat.ble 0 x.need.toNat && Nat.ble x.need.toNat (x.kept.length - x.from'.toNat)) ((U7 N ((((x.kept : List Int).drop (0 + x.from'.toNat * 1)).take x.need.toNat).map fun n => UInt8.ofNat n.toNat) x.l).bind fun v6 =>
 cond (Q7 .neq v6.2.2 0)
 ((Yv N x v6.2.2).bind fun v9 =>
 some (v9.1, v9.2))
 (cond (Nat.ble ((x.out.length + 1 + 4096) * 56) 17592186044416) ((idx ((x.out ++ [(⟨0, 0, [], []⟩ : Q9)]) : List Q9) (x.out.length : Int)).bind fun y12 =>
 some (true, (⟨x.l, x.kept, (IntKind.wrap .i64 (x.from' + v6.2.1)), (IntKind.wrap .i64 (x.at' + v6.2.1)), x.need, x.e, 27, (((x.out ++ [(⟨0, 0, [], []⟩ : Q9)]) : List Q9).set (Int.toNat (x.out.length : Int)) v6.1)⟩ : Q5))) none)) none) none)) none) none
theorem Ue {N} {x} {r} (h : Y4 N x = some r) : GC Tryz.prog G1 42 (.ptr 0 0 :: []) (.cells (.p (.int .i64 x.l.MaxPacket) :: .p (.int .i64 x.l.MaxDepth) :: .slice 1 1 0 x.kept.length :: .p (.int .i64 x.from') :: .p (.int .i64 x.at') :: .p (.int .i64 x.need) :: .p (.int .i64 x.e) :: .func (.func x.next) [.ptr 0 0] [] :: .slice 4 2 0 x.out.length :: []) :: .cells (Yf (cI .u8) x.kept) :: .cells (Yf Q9.cells x.out) :: []) (.p (.bool r.1)) (.cells (.p (.int .i64 r.2.l.MaxPacket) :: .p (.int .i64 r.2.l.MaxDepth) :: .slice 1 3 0 r.2.kept.length :: .p (.int .i64 r.2.from') :: .p (.int .i64 r.2.at') :: .p (.int .i64 r.2.need) :: .p (.int .i64 r.2.e) :: .func (.func r.2.next) [.ptr 0 0] [] :: .slice 4 4 0 r.2.out.length :: []) :: .dead :: .dead :: .cells (Yf (cI .u8) r.2.kept) :: .cells (Yf Q9.cells r.2.out) :: []) := by
 refine Q2j k42 (Nat.le_of_ble_eq_true rfl) ?_
 unfold Y4 at h
 rw [cX] at h
 refine W5 k29 ?_
 refine Qb ?_
 refine kU h fun h => ?_
 obtain ⟨hk2, h⟩ := Jx h
 refine Uw hk2 ?_
 apply iU h <;> intro h
 ·obtain rfl := Qa h
  show Exists _
  exact ⟨(rho [0, 1, 2, 1, 2]), ⟨(rE rfl <| rN), (hE rfl <| hD <| hD <| hO rfl <| hO rfl <| hN), rfl, rfl, (roE rfl <| roE rfl <| roE rfl <| roE (Q2 _ _ _) <| roE (Q2 _ _ _) <| roN)⟩⟩
 ·refine Qb ?_
  refine kU h fun h => ?_
  obtain ⟨hk5, h⟩ := Jx h
  refine Uw hk5 ?_
  refine Qmy (l := x.kept) (off := (0 + x.from'.toNat * 1)) (n := x.need.toNat) (by have e : x.kept.length = (x.kept : List Int).length := (by first | (simp; done) | (simp [Qv]; done)); simp only [Bool.and_eq_true, Nat.ble_eq] at hk2 hk5; omega) ?_
  refine cD h Q40 (.cons (.p _) (.cons q2 .nil)) fun v6 h => ?_
  apply iU h <;> intro h
  ·refine cG h Ud fun v9 h => ?_
   refine ⟨rho [0, 1, 2], (.cells (iI v9.2.l.MaxPacket :: iI v9.2.l.MaxDepth :: .slice 1 4 0 v9.2.kept.length :: iI v9.2.from' :: iI v9.2.at' :: iI v9.2.need :: iI v9.2.e :: .func (.func v9.2.next) [.ptr 0 0] [] :: .slice 4 5 0 v9.2.out.length :: []) :: .dead :: .dead :: .cells (iI v6.1.Type' :: iI v6.1.Channel :: iS v6.1.Ext :: .p (.slice 4 (Q0.rows v6.1.Values)) :: []) :: .cells (Yf (cI .u8) v9.2.kept) :: .cells (Yf Q9.cells v9.2.out) :: []), .p (.bool v9.1), ⟨(rE rfl <| rE rfl <| rN), (hE rfl <| hO rfl <| hO rfl <| hN), rfl, rfl, (roE rfl <| roE (Q2 _ _ _) <| roE (Q2 _ _ _) <| roN), rfl, (fR 0 rfl rfl rfl rfl <| fD <| fD <| fK rfl rfl <| fO 3 rfl rfl rfl <| fO 4 rfl rfl rfl <| fN), rfl⟩, ?_⟩
   obtain rfl := Qa h
   show Exists _
   exact ⟨(rho [0, 1, 2, 4, 5]), ⟨(rE rfl <| rN), (hE rfl <| hD <| hD <| hO rfl <| hO rfl <| hN), rfl, rfl, (roE rfl <| roE rfl <| roE rfl <| roE (Q2 _ _ _) <| roE (Q2 _ _ _) <| roN)⟩⟩
  ·refine Qb ?_
   obtain ⟨hk11, h⟩ := Jx h
   refine Uw (Wu (c := Q9.cells) (e := 4) (fun _ => rfl) (by first | (simp; done) | (simp [Qv]; done)) hk11) ?_
   refine U1 (c := Q9.cells) [(⟨0, 0, [], []⟩ : Q9)] rfl ?_
   obtain ⟨y12, hy13, h⟩ := Q0v h
   refine Uw (Qe1 hy13 (by first | (simp; done) | (simp [Qv]; done))) ?_
   refine Uw (Qhs (c := Q9.cells) (e := 4) (fun _ => rfl) hy13 (off := 0) (by omega) rfl (by decide)) ?_
   refine Qjj (c := Q9.cells) (e := 4) (fun _ => rfl) hy13 v6.1 (off := 0) (by first | omega | (simp only [Q3l, orI, Qqy, Qde, Jh, Q6a]; omega)) rfl (by simp) ?_
   obtain rfl := Qa h
   show Exists _
   exact ⟨(rho [0, 1, 2, 1, 5]), ⟨(rE rfl <| rN), (hC rfl (rE rfl <| rE rfl <| rE rfl <| rE rfl <| rE rfl <| rE rfl <| rE rfl <| rE rfl <| rL (by first | (simp; done) | (simp [Qv]; done)) rfl <| rN) <| hD <| hD <| hO rfl <| hO rfl <| hN), rfl, rfl, (roE rfl <| roE rfl <| roE rfl <| roE (Q2 _ _ _) <| roE (Q2 _ _ _) <| roN)⟩⟩
def Y3 (N : Nat) (x : Q5) : Option ((Bool) × Q5) :=
 cond (decide (0 ≤ x.from')) (cond (Nat.ble x.from'.toNat x.kept.length && Nat.ble x.kept.length x.kept.length) (cond (Q7 .lss (((x.kept.length - x.from'.toNat) : Nat) : Int) 8)
 (some (false, x))
 (cond (Nat.ble 0 8 && Nat.ble 8 (x.kept.length - x.from'.toNat)) ((X2 N ((((x.kept : List Int).drop (0 + x.from'.toNat * 1)).take 8).map fun n => UInt8.ofNat n.toNat) x.l).bind fun v5 =>
 cond (Q7 .neq v5.2 0)
 ((Yv N x v5.2).bind fun v8 =>
 some (v8.1, v8.2))
 (some (true, (⟨x.l, x.kept, x.from', x.at', v5.1, x.e, 42, x.out⟩ : Q5)))) none)) none) none
theorem Uc {N} {x} {r} (h : Y3 N x = some r) : GC Tryz.prog G1 27 (.ptr 0 0 :: []) (.cells (.p (.int .i64 x.l.MaxPacket) :: .p (.int .i64 x.l.MaxDepth) :: .slice 1 1 0 x.kept.length :: .p (.int .i64 x.from') :: .p (.int .i64 x.at') :: .p (.int .i64 x.need) :: .p (.int .i64 x.e) :: .func (.func x.next) [.ptr 0 0] [] :: .slice 4 2 0 x.out.length :: []) :: .cells (Yf (cI .u8) x.kept) :: .cells (Yf Q9.cells x.out) :: []) (.p (.bool r.1)) (.cells (.p (.int .i64 r.2.l.MaxPacket) :: .p (.int .i64 r.2.l.MaxDepth) :: .slice 1 3 0 r.2.kept.length :: .p (.int .i64 r.2.from') :: .p (.int .i64 r.2.at') :: .p (.int .i64 r.2.need) :: .p (.int .i64 r.2.e) :: .func (.func r.2.next) [.ptr 0 0] [] :: .slice 4 4 0 r.2.out.length :: []) :: .dead :: .dead :: .cells (Yf (cI .u8) r.2.kept) :: .cells (Yf Q9.cells r.2.out) :: []) := by
 refine Q2j k27 (Nat.le_of_ble_eq_true rfl) ?_
 unfold Y3 at h
 rw [cX] at h
 refine W5 k29 ?_
 refine Qb ?_
 refine kU h fun h => ?_
 obtain ⟨hk2, h⟩ := Jx h
 refine Uw hk2 ?_
 apply iU h <;> intro h
 ·obtain rfl := Qa h
  show Exists _
  exact ⟨(rho [0, 1, 2, 1, 2]), ⟨(rE rfl <| rN), (hE rfl <| hD <| hD <| hO rfl <| hO rfl <| hN), rfl, rfl, (roE rfl <| roE rfl <| roE rfl <| roE (Q2 _ _ _) <| roE (Q2 _ _ _) <| roN)⟩⟩
 ·refine Qb ?_
  obtain ⟨hk4, h⟩ := Jx h
  refine Uw hk4 ?_
  refine Qmy (l := x.kept) (off := (0 + x.from'.toNat * 1)) (n := 8) (by have e : x.kept.length = (x.kept : List Int).length := (by first | (simp; done) | (simp [Qv]; done)); simp only [Bool.and_eq_true, Nat.ble_eq] at hk2 hk4; omega) ?_
  refine cD h V7 (.cons (.p _) (.cons q2 .nil)) fun v5 h => ?_
  apply iU h <;> intro h
  ·refine cG h Ud fun v8 h => ?_
   refine ⟨rho [0, 1, 2], (.cells (iI v8.2.l.MaxPacket :: iI v8.2.l.MaxDepth :: .slice 1 3 0 v8.2.kept.length :: iI v8.2.from' :: iI v8.2.at' :: iI v8.2.need :: iI v8.2.e :: .func (.func v8.2.next) [.ptr 0 0] [] :: .slice 4 4 0 v8.2.out.length :: []) :: .dead :: .dead :: .cells (Yf (cI .u8) v8.2.kept) :: .cells (Yf Q9.cells v8.2.out) :: []), .p (.bool v8.1), ⟨(rE rfl <| rE rfl <| rN), (hE rfl <| hO rfl <| hO rfl <| hN), rfl, rfl, (roE rfl <| roE (Q2 _ _ _) <| roE (Q2 _ _ _) <| roN), rfl, (fR 0 rfl rfl rfl rfl <| fD <| fD <| fO 3 rfl rfl rfl <| fO 4 rfl rfl rfl <| fN), rfl⟩, ?_⟩
   obtain rfl := Qa h
   show Exists _
   exact ⟨(rho [0, 1, 2, 3, 4]), ⟨(rE rfl <| rN), (hE rfl <| hD <| hD <| hO rfl <| hO rfl <| hN), rfl, rfl, (roE rfl <| roE rfl <| roE rfl <| roE (Q2 _ _ _) <| roE (Q2 _ _ _) <| roN)⟩⟩
  ·obtain rfl := Qa h
   show Exists _
   exact ⟨(rho [0, 1, 2, 1, 2]), ⟨(rE rfl <| rN), (hE rfl <| hD <| hD <| hO rfl <| hO rfl <| hN), rfl, rfl, (roE rfl <| roE rfl <| roE rfl <| roE (Q2 _ _ _) <| roE (Q2 _ _ _) <| roN)⟩⟩
def Qq (N : Nat) : Nat → Int → Int → Int → Int → Int → Int → Nat → (List Int) → (List Q9) → Option (((List Q9) × Int) × Q5)
 | 0, _, _, _, _, _, _, _, _, _ => none
 | n + 1, c28, c29, c30, c31, c32, c33, q34, l35, l36 =>
  cond (Nat.beq q34 27)
  ((Y3 N (⟨(⟨c28, c29⟩ : Qe), l35, c30, c31, c32, c33, 27, l36⟩ : Q5)).bind fun v38 =>
  cond v38.1
  (Qq N n v38.2.l.MaxPacket v38.2.l.MaxDepth v38.2.from' v38.2.at' v38.2.need v38.2.e v38.2.next v38.2.kept v38.2.out)
  (cond (Q7 .gtr v38.2.from' 0)
  (cond (decide (0 ≤ v38.2.from')) (cond (Nat.ble v38.2.from'.toNat v38.2.kept.length && Nat.ble v38.2.kept.length v38.2.kept.length) (cond (Nat.ble 1 v38.2.kept.length) (cond (Nat.ble 0 (((((v38.2.kept : List Int).drop (0 + v38.2.from'.toNat * 1)).take (v38.2.kept.length - v38.2.from'.toNat)).take v38.2.kept.length).length) && Nat.ble (((((v38.2.kept : List Int).drop (0 + v38.2.from'.toNat * 1)).take (v38.2.kept.length - v38.2.from'.toNat)).take v38.2.kept.length).length) v38.2.kept.length) (some ((v38.2.out, v38.2.e), (⟨v38.2.l, (((((((v38.2.kept : List Int).drop (0 + v38.2.from'.toNat * 1)).take (v38.2.kept.length - v38.2.from'.toNat)).take v38.2.kept.length) ++ (v38.2.kept : List Int).drop ((((v38.2.kept : List Int).drop (0 + v38.2.from'.toNat * 1)).take (v38.2.kept.length - v38.2.from'.toNat)).take v38.2.kept.length).length) : List Int).take (((((v38.2.kept : List Int).drop (0 + v38.2.from'.toNat * 1)).take (v38.2.kept.length - v38.2.from'.toNat)).take v38.2.kept.length).length)), 0, v38.2.at', v38.2.need, v38.2.e, v38.2.next, []⟩ : Q5))) none) none) none) none)
  (some ((v38.2.out, v38.2.e), (⟨v38.2.l, v38.2.kept, v38.2.from', v38.2.at', v38.2.need, v38.2.e, v38.2.next, []⟩ : Q5)))))
  (cond (Nat.beq q34 42)
  ((Y4 N (⟨(⟨c28, c29⟩ : Qe), l35, c30, c31, c32, c33, 42, l36⟩ : Q5)).bind fun v47 =>
  cond v47.1
  (Qq N n v47.2.l.MaxPacket v47.2.l.MaxDepth v47.2.from' v47.2.at' v47.2.need v47.2.e v47.2.next v47.2.kept v47.2.out)
  (cond (Q7 .gtr v47.2.from' 0)
  (cond (decide (0 ≤ v47.2.from')) (cond (Nat.ble v47.2.from'.toNat v47.2.kept.length && Nat.ble v47.2.kept.length v47.2.kept.length) (cond (Nat.ble 1 v47.2.kept.length) (cond (Nat.ble 0 (((((v47.2.kept : List Int).drop (0 + v47.2.from'.toNat * 1)).take (v47.2.kept.length - v47.2.from'.toNat)).take v47.2.kept.length).length) && Nat.ble (((((v47.2.kept : List Int).drop (0 + v47.2.from'.toNat * 1)).take (v47.2.kept.length - v47.2.from'.toNat)).take v47.2.kept.length).length) v47.2.kept.length) (some ((v47.2.out, v47.2.e), (⟨v47.2.l, (((((((v47.2.kept : List Int).drop (0 + v47.2.from'.toNat * 1)).take (v47.2.kept.length - v47.2.from'.toNat)).take v47.2.kept.length) ++ (v47.2.kept : List Int).drop ((((v47.2.kept : List Int).drop (0 + v47.2.from'.toNat * 1)).take (v47.2.kept.length - v47.2.from'.toNat)).take v47.2.kept.length).length) : List Int).take (((((v47.2.kept : List Int).drop (0 + v47.2.from'.toNat * 1)).take (v47.2.kept.length - v47.2.from'.toNat)).take v47.2.kept.length).length)), 0, v47.2.at', v47.2.need, v47.2.e, v47.2.next, []⟩ : Q5))) none) none) none) none)
  (some ((v47.2.out, v47.2.e), (⟨v47.2.l, v47.2.kept, v47.2.from', v47.2.at', v47.2.need, v47.2.e, v47.2.next, []⟩ : Q5)))))
  (none))
def Zq (N : Nat) : Nat → Int → Int → Int → Int → Int → Int → Nat → (List Int) → (List Q9) → Option (((List Q9) × Int) × Q5)
 | 0, _, _, _, _, _, _, _, _, _ => none
 | n + 1, c81, c82, c83, c84, c85, c86, q87, l88, l89 =>
  cond (Nat.beq q87 27)
  ((Y3 N (⟨(⟨c81, c82⟩ : Qe), l88, c83, c84, c85, c86, 27, l89⟩ : Q5)).bind fun v91 =>
  cond v91.1
  (Zq N n v91.2.l.MaxPacket v91.2.l.MaxDepth v91.2.from' v91.2.at' v91.2.need v91.2.e v91.2.next v91.2.kept v91.2.out)
  (cond (Q7 .gtr v91.2.from' 0)
  (cond (decide (0 ≤ v91.2.from')) (cond (Nat.ble v91.2.from'.toNat v91.2.kept.length && Nat.ble v91.2.kept.length v91.2.kept.length) (cond (Nat.ble 1 v91.2.kept.length) (cond (Nat.ble 0 (((((v91.2.kept : List Int).drop (0 + v91.2.from'.toNat * 1)).take (v91.2.kept.length - v91.2.from'.toNat)).take v91.2.kept.length).length) && Nat.ble (((((v91.2.kept : List Int).drop (0 + v91.2.from'.toNat * 1)).take (v91.2.kept.length - v91.2.from'.toNat)).take v91.2.kept.length).length) v91.2.kept.length) (some ((v91.2.out, v91.2.e), (⟨v91.2.l, (((((((v91.2.kept : List Int).drop (0 + v91.2.from'.toNat * 1)).take (v91.2.kept.length - v91.2.from'.toNat)).take v91.2.kept.length) ++ (v91.2.kept : List Int).drop ((((v91.2.kept : List Int).drop (0 + v91.2.from'.toNat * 1)).take (v91.2.kept.length - v91.2.from'.toNat)).take v91.2.kept.length).length) : List Int).take (((((v91.2.kept : List Int).drop (0 + v91.2.from'.toNat * 1)).take (v91.2.kept.length - v91.2.from'.toNat)).take v91.2.kept.length).length)), 0, v91.2.at', v91.2.need, v91.2.e, v91.2.next, []⟩ : Q5))) none) none) none) none)
  (some ((v91.2.out, v91.2.e), (⟨v91.2.l, v91.2.kept, v91.2.from', v91.2.at', v91.2.need, v91.2.e, v91.2.next, []⟩ : Q5)))))
  (cond (Nat.beq q87 42)
  ((Y4 N (⟨(⟨c81, c82⟩ : Qe), l88, c83, c84, c85, c86, 42, l89⟩ : Q5)).bind fun v100 =>
  cond v100.1
  (Zq N n v100.2.l.MaxPacket v100.2.l.MaxDepth v100.2.from' v100.2.at' v100.2.need v100.2.e v100.2.next v100.2.kept v100.2.out)
  (cond (Q7 .gtr v100.2.from' 0)
  (cond (decide (0 ≤ v100.2.from')) (cond (Nat.ble v100.2.from'.toNat v100.2.kept.length && Nat.ble v100.2.kept.length v100.2.kept.length) (cond (Nat.ble 1 v100.2.kept.length) (cond (Nat.ble 0 (((((v100.2.kept : List Int).drop (0 + v100.2.from'.toNat * 1)).take (v100.2.kept.length - v100.2.from'.toNat)).take v100.2.kept.length).length) && Nat.ble (((((v100.2.kept : List Int).drop (0 + v100.2.from'.toNat * 1)).take (v100.2.kept.length - v100.2.from'.toNat)).take v100.2.kept.length).length) v100.2.kept.length) (some ((v100.2.out, v100.2.e), (⟨v100.2.l, (((((((v100.2.kept : List Int).drop (0 + v100.2.from'.toNat * 1)).take (v100.2.kept.length - v100.2.from'.toNat)).take v100.2.kept.length) ++ (v100.2.kept : List Int).drop ((((v100.2.kept : List Int).drop (0 + v100.2.from'.toNat * 1)).take (v100.2.kept.length - v100.2.from'.toNat)).take v100.2.kept.length).length) : List Int).take (((((v100.2.kept : List Int).drop (0 + v100.2.from'.toNat * 1)).take (v100.2.kept.length - v100.2.from'.toNat)).take v100.2.kept.length).length)), 0, v100.2.at', v100.2.need, v100.2.e, v100.2.next, []⟩ : Q5))) none) none) none) none)
  (some ((v100.2.out, v100.2.e), (⟨v100.2.l, v100.2.kept, v100.2.from', v100.2.at', v100.2.need, v100.2.e, v100.2.next, []⟩ : Q5)))))
  (none))
def Qx (N : Nat) (x : Q5) (chunk : List UInt8) : Option (((List Q9) × Int) × Q5) :=
 cond (Q7 .neq x.e 0)
 (some (([], x.e), x))
 (cond (Nat.beq chunk.length 0)
 (Qq N N x.l.MaxPacket x.l.MaxDepth x.from' x.at' x.need x.e x.next x.kept x.out)
 (cond (Nat.ble ((x.kept.length + chunk.length + 4096) * 1) 17592186044416) (Zq N N x.l.MaxPacket x.l.MaxDepth x.from' x.at' x.need x.e x.next (x.kept ++ (chunk.map fun b => (b.toNat : Int))) x.out) none))
theorem Xp {N} {x} {chunk} {r} (h : Qx N x chunk = some r) : GC Tryz.prog G1 12 (.ptr 0 0 :: .p (.str chunk) :: []) (.cells (.p (.int .i64 x.l.MaxPacket) :: .p (.int .i64 x.l.MaxDepth) :: .slice 1 1 0 x.kept.length :: .p (.int .i64 x.from') :: .p (.int .i64 x.at') :: .p (.int .i64 x.need) :: .p (.int .i64 x.e) :: .func (.func x.next) [.ptr 0 0] [] :: .slice 4 2 0 x.out.length :: []) :: .cells (Yf (cI .u8) x.kept) :: .cells (Yf Q9.cells x.out) :: []) (.p (.tuple [.slice 4 (Qv Q9.cells r.1.1), .int .i64 r.1.2])) (.cells (.p (.int .i64 r.2.l.MaxPacket) :: .p (.int .i64 r.2.l.MaxDepth) :: .slice 1 3 0 r.2.kept.length :: .p (.int .i64 r.2.from') :: .p (.int .i64 r.2.at') :: .p (.int .i64 r.2.need) :: .p (.int .i64 r.2.e) :: .func (.func r.2.next) [.ptr 0 0] [] :: .slice 4 4 0 r.2.out.length :: []) :: .dead :: .dead :: .cells (Yf (cI .u8) r.2.kept) :: .cells (Yf Q9.cells r.2.out) :: []) := by
 refine Q2j k12 (Nat.le_of_ble_eq_true rfl) ?_
 unfold Qx at h
 rw [cX] at h
 apply iU h <;> intro h
 ·refine Qb ?_
  obtain rfl := Qa h
  show Exists _
  exact ⟨(rho [0, 1, 2, 1, 2]), ⟨(rF (Frz.tuple' (.cons (.nil _) p1)) <| rN), (hE rfl <| hD <| hD <| hO rfl <| hO rfl <| hN), rfl, rfl, (roE rfl <| roE rfl <| roE rfl <| roE (Q2 _ _ _) <| roE (Q2 _ _ _) <| roN)⟩⟩
 ·refine Qp1 (b := chunk) ?_
  apply iU h <;> intro h
  ·refine lpC (τ := Int × Int × Int × Int × Int × Int × Nat × (List Int) × (List Q9)) (fun ⟨_, _, _, _, _, _, _, _, _⟩ => (.ptr 0 0 :: a16 (a16 (a16 (a16 (a4 ([]))))) : List AV)) (fun ⟨c28, c29, c30, c31, c32, c33, q34, l35, l36⟩ => (.cells (iI c28 :: iI c29 :: .slice 1 3 0 l35.length :: iI c30 :: iI c31 :: iI c32 :: iI c33 :: .func (.func q34) [.ptr 0 0] [] :: .slice 4 4 0 l36.length :: []) :: .dead :: .dead :: .cells (Yf (cI .u8) l35) :: .cells (Yf Q9.cells l36) :: [] : List AObj)) (fun n0 ⟨c28, c29, c30, c31, c32, c33, q34, l35, l36⟩ => Qq N n0 c28 c29 c30 c31 c32 c33 q34 l35 l36) (x.l.MaxPacket, x.l.MaxDepth, x.from', x.at', x.need, x.e, x.next, x.kept, x.out) h (rho [0, 1, 2, 1, 2]) ⟨(rE rfl <| rX <| rX <| rX <| rX <| rX <| rX <| rX <| rX <| rV <| rN), (hE rfl <| hD <| hD <| hO rfl <| hO rfl <| hN), rfl, rfl, (roE rfl <| roE rfl <| roE rfl <| roE (Q2 _ _ _) <| roE (Q2 _ _ _) <| roN)⟩ fun n0 ⟨c28, c29, c30, c31, c32, c33, q34, l35, l36⟩ h => ?_
   simp only [Qq] at h
   rw [cX] at h
   refine fnU h (fun e h => ?_) fun h => ?_
   ·subst e
    refine cG h Uc fun v38 h => ?_
    refine ⟨rho [0, 3, 4], (.cells (iI v38.2.l.MaxPacket :: iI v38.2.l.MaxDepth :: .slice 1 5 0 v38.2.kept.length :: iI v38.2.from' :: iI v38.2.at' :: iI v38.2.need :: iI v38.2.e :: .func (.func v38.2.next) [.ptr 0 0] [] :: .slice 4 6 0 v38.2.out.length :: []) :: .dead :: .dead :: .dead :: .dead :: .cells (Yf (cI .u8) v38.2.kept) :: .cells (Yf Q9.cells v38.2.out) :: []), .p (.bool v38.1), ⟨(rE rfl <| rN), (hE rfl <| hO rfl <| hO rfl <| hN), rfl, rfl, (roE rfl <| roE (Q2 _ _ _) <| roE (Q2 _ _ _) <| roN), rfl, (fR 0 rfl rfl rfl rfl <| fD <| fD <| fD <| fD <| fO 3 rfl rfl rfl <| fO 4 rfl rfl rfl <| fN), rfl⟩, ?_⟩
    apply iU h <;> intro h
    ·show Exists _
     exact ⟨(n0, v38.2.l.MaxPacket, v38.2.l.MaxDepth, v38.2.from', v38.2.at', v38.2.need, v38.2.e, v38.2.next, v38.2.kept, v38.2.out), h, Nat.lt_succ_self _, (rho [0, 1, 2, 5, 6]), ⟨(rE rfl <| rX <| rX <| rX <| rX <| rX <| rX <| rX <| rX <| rV <| rN), (hE rfl <| hD <| hD <| hO rfl <| hO rfl <| hN), rfl, rfl, (roE rfl <| roE rfl <| roE rfl <| roE (Q2 _ _ _) <| roE (Q2 _ _ _) <| roN)⟩⟩
    ·apply iU h <;> intro h
     ·refine Qb ?_
      obtain ⟨hk42, h⟩ := Jx h
      obtain ⟨hk43, h⟩ := Jx h
      refine U5 [0] (r := .slice 1 5 (0 + v38.2.from'.toNat * 1) (v38.2.kept.length - v38.2.from'.toNat)) rfl rfl (fun a ha o ho => ?_) (W5 k29 ?_) ?_
      ·simp only [List.mem_cons, List.mem_nil_iff, or_false] at ha; subst ha; cases ho; rfl
      ·refine Qb ?_
       refine Uw hk42 ?_
       refine Uw hk43 ?_
       exact ⟨rfl, [], (List.append_nil _).symm⟩
      refine Qex (l := v38.2.kept) (off := (0 + v38.2.from'.toNat * 1)) (n := (v38.2.kept.length - v38.2.from'.toNat)) (by have e : v38.2.kept.length = (v38.2.kept : List Int).length := (by first | (simp; done) | (simp [Qv]; done)); simp only [Bool.and_eq_true, Nat.ble_eq] at hk43; omega) ?_
      obtain ⟨hk44, h⟩ := Jx h
      refine Uw (Q62 (c := (cI .u8)) (l := (v38.2.kept : List Int)) (fun _ => rfl) (by first | (simp; done) | (simp [Qv]; done)) hk44) ?_
      refine Qb1 (c := (cI .u8)) (l := (v38.2.kept : List Int)) (new := (((v38.2.kept : List Int).drop (0 + v38.2.from'.toNat * 1)).take (v38.2.kept.length - v38.2.from'.toNat))) (fun _ => rfl) ?_
      obtain ⟨hk45, h⟩ := Jx h
      refine Uw hk45 ?_
      refine Qb ?_
      obtain rfl := Qa h
      show Exists _
      exact ⟨(rho [0, 1, 2, 5, 8]), ⟨(rF (Frz.tuple' (.cons (frz_own (c := Q9.cells) (l := (v38.2.out : List Q9)) (fun _ => rfl) rfl rfl (by first | (simp; done) | (simp [Qv]; done))) p1)) <| rN), (hC rfl (rE rfl <| rE rfl <| rL (List.length_take_of_le (l := ((((((v38.2.kept : List Int).drop (0 + v38.2.from'.toNat * 1)).take (v38.2.kept.length - v38.2.from'.toNat)).take v38.2.kept.length) ++ (v38.2.kept : List Int).drop ((((v38.2.kept : List Int).drop (0 + v38.2.from'.toNat * 1)).take (v38.2.kept.length - v38.2.from'.toNat)).take v38.2.kept.length).length) : List Int)) (by have e : v38.2.kept.length = ((((((v38.2.kept : List Int).drop (0 + v38.2.from'.toNat * 1)).take (v38.2.kept.length - v38.2.from'.toNat)).take v38.2.kept.length) ++ (v38.2.kept : List Int).drop ((((v38.2.kept : List Int).drop (0 + v38.2.from'.toNat * 1)).take (v38.2.kept.length - v38.2.from'.toNat)).take v38.2.kept.length).length) : List Int).length := (by simp <;> omega); simp only [Bool.and_eq_true, Nat.ble_eq] at hk45; omega)).symm rfl <| rE rfl <| rE rfl <| rE rfl <| rE rfl <| rE rfl <| rS <| rN) <| hD <| hD <| Qq1 (((((v38.2.kept : List Int).drop (0 + v38.2.from'.toNat * 1)).take (v38.2.kept.length - v38.2.from'.toNat)).take v38.2.kept.length).length) rfl <| hV lb <| hN), rfl, rfl, (roE rfl <| roE rfl <| roE rfl <| roE (Q2 _ _ _) <| roE (Q2 _ _ _) <| roN)⟩⟩
     ·refine Qb ?_
      obtain rfl := Qa h
      show Exists _
      exact ⟨(rho [0, 1, 2, 5, 8]), ⟨(rF (Frz.tuple' (.cons (frz_own (c := Q9.cells) (l := (v38.2.out : List Q9)) (fun _ => rfl) rfl rfl (by first | (simp; done) | (simp [Qv]; done))) p1)) <| rN), (hC rfl (rE rfl <| rE rfl <| rE rfl <| rE rfl <| rE rfl <| rE rfl <| rE rfl <| rE rfl <| rS <| rN) <| hD <| hD <| hO rfl <| hV lb <| hN), rfl, rfl, (roE rfl <| roE rfl <| roE rfl <| roE (Q2 _ _ _) <| roE (Q2 _ _ _) <| roN)⟩⟩
   ·skip
    refine fnU h (fun e h => ?_) fun h => ?_
    ·subst e
     refine cG h Ue fun v47 h => ?_
     refine ⟨rho [0, 3, 4], (.cells (iI v47.2.l.MaxPacket :: iI v47.2.l.MaxDepth :: .slice 1 5 0 v47.2.kept.length :: iI v47.2.from' :: iI v47.2.at' :: iI v47.2.need :: iI v47.2.e :: .func (.func v47.2.next) [.ptr 0 0] [] :: .slice 4 6 0 v47.2.out.length :: []) :: .dead :: .dead :: .dead :: .dead :: .cells (Yf (cI .u8) v47.2.kept) :: .cells (Yf Q9.cells v47.2.out) :: []), .p (.bool v47.1), ⟨(rE rfl <| rN), (hE rfl <| hO rfl <| hO rfl <| hN), rfl, rfl, (roE rfl <| roE (Q2 _ _ _) <| roE (Q2 _ _ _) <| roN), rfl, (fR 0 rfl rfl rfl rfl <| fD <| fD <| fD <| fD <| fO 3 rfl rfl rfl <| fO 4 rfl rfl rfl <| fN), rfl⟩, ?_⟩
     apply iU h <;> intro h
     ·show Exists _
      exact ⟨(n0, v47.2.l.MaxPacket, v47.2.l.MaxDepth, v47.2.from', v47.2.at', v47.2.need, v47.2.e, v47.2.next, v47.2.kept, v47.2.out), h, Nat.lt_succ_self _, (rho [0, 1, 2, 5, 6]), ⟨(rE rfl <| rX <| rX <| rX <| rX <| rX <| rX <| rX <| rX <| rV <| rN), (hE rfl <| hD <| hD <| hO rfl <| hO rfl <| hN), rfl, rfl, (roE rfl <| roE rfl <| roE rfl <| roE (Q2 _ _ _) <| roE (Q2 _ _ _) <| roN)⟩⟩
     ·apply iU h <;> intro h
      ·refine Qb ?_
       obtain ⟨hk51, h⟩ := Jx h
       obtain ⟨hk52, h⟩ := Jx h
       refine U5 [0] (r := .slice 1 5 (0 + v47.2.from'.toNat * 1) (v47.2.kept.length - v47.2.from'.toNat)) rfl rfl (fun a ha o ho => ?_) (W5 k29 ?_) ?_
       ·simp only [List.mem_cons, List.mem_nil_iff, or_false] at ha; subst ha; cases ho; rfl
       ·refine Qb ?_
        refine Uw hk51 ?_
        refine Uw hk52 ?_
        exact ⟨rfl, [], (List.append_nil _).symm⟩
       refine Qex (l := v47.2.kept) (off := (0 + v47.2.from'.toNat * 1)) (n := (v47.2.kept.length - v47.2.from'.toNat)) (by have e : v47.2.kept.length = (v47.2.kept : List Int).length := (by first | (simp; done) | (simp [Qv]; done)); simp only [Bool.and_eq_true, Nat.ble_eq] at hk52; omega) ?_
       obtain ⟨hk53, h⟩ := Jx h
       refine Uw (Q62 (c := (cI .u8)) (l := (v47.2.kept : List Int)) (fun _ => rfl) (by first | (simp; done) | (simp [Qv]; done)) hk53) ?_
       refine Qb1 (c := (cI .u8)) (l := (v47.2.kept : List Int)) (new := (((v47.2.kept : List Int).drop (0 + v47.2.from'.toNat * 1)).take (v47.2.kept.length - v47.2.from'.toNat))) (fun _ => rfl) ?_
       obtain ⟨hk54, h⟩ := Jx h
       refine Uw hk54 ?_
       refine Qb ?_
       obtain rfl := Qa h
       show Exists _
       exact ⟨(rho [0, 1, 2, 5, 8]), ⟨(rF (Frz.tuple' (.cons (frz_own (c := Q9.cells) (l := (v47.2.out : List Q9)) (fun _ => rfl) rfl rfl (by first | (simp; done) | (simp [Qv]; done))) p1)) <| rN), (hC rfl (rE rfl <| rE rfl <| rL (List.length_take_of_le (l := ((((((v47.2.kept : List Int).drop (0 + v47.2.from'.toNat * 1)).take (v47.2.kept.length - v47.2.from'.toNat)).take v47.2.kept.length) ++ (v47.2.kept : List Int).drop ((((v47.2.kept : List Int).drop (0 + v47.2.from'.toNat * 1)).take (v47.2.kept.length - v47.2.from'.toNat)).take v47.2.kept.length).length) : List Int)) (by have e : v47.2.kept.length = ((((((v47.2.kept : List Int).drop (0 + v47.2.from'.toNat * 1)).take (v47.2.kept.length - v47.2.from'.toNat)).take v47.2.kept.length) ++ (v47.2.kept : List Int).drop ((((v47.2.kept : List Int).drop (0 + v47.2.from'.toNat * 1)).take (v47.2.kept.length - v47.2.from'.toNat)).take v47.2.kept.length).length) : List Int).length := (by simp <;> omega); simp only [Bool.and_eq_true, Nat.ble_eq] at hk54; omega)).symm rfl <| rE rfl <| rE rfl <| rE rfl <| rE rfl <| rE rfl <| rS <| rN) <| hD <| hD <| Qq1 (((((v47.2.kept : List Int).drop (0 + v47.2.from'.toNat * 1)).take (v47.2.kept.length - v47.2.from'.toNat)).take v47.2.kept.length).length) rfl <| hV lb <| hN), rfl, rfl, (roE rfl <| roE rfl <| roE rfl <| roE (Q2 _ _ _) <| roE (Q2 _ _ _) <| roN)⟩⟩
      ·refine Qb ?_
       obtain rfl := Qa h
       show Exists _
       exact ⟨(rho [0, 1, 2, 5, 8]), ⟨(rF (Frz.tuple' (.cons (frz_own (c := Q9.cells) (l := (v47.2.out : List Q9)) (fun _ => rfl) rfl rfl (by first | (simp; done) | (simp [Qv]; done))) p1)) <| rN), (hC rfl (rE rfl <| rE rfl <| rE rfl <| rE rfl <| rE rfl <| rE rfl <| rE rfl <| rE rfl <| rS <| rN) <| hD <| hD <| hO rfl <| hV lb <| hN), rfl, rfl, (roE rfl <| roE rfl <| roE rfl <| roE (Q2 _ _ _) <| roE (Q2 _ _ _) <| roN)⟩⟩
    ·skip
     first | (cases h; done) | (simp [Qjr] at h; done)
  ·obtain ⟨hk55, h⟩ := Jx h
   refine Uw (Wu (c := (cI .u8)) (e := 1) (l := x.kept) (fun _ => rfl) (by first | (simp; done) | (simp [Qv]; done)) hk55) ?_
   refine U1 (c := (cI .u8)) (l := x.kept) (chunk.map fun b => (b.toNat : Int)) rfl ?_
   refine lpC (τ := Int × Int × Int × Int × Int × Int × Nat × (List Int) × (List Q9)) (fun ⟨_, _, _, _, _, _, _, _, _⟩ => (.ptr 0 0 :: a16 (a16 (a16 (a16 (a4 ([]))))) : List AV)) (fun ⟨c81, c82, c83, c84, c85, c86, q87, l88, l89⟩ => (.cells (iI c81 :: iI c82 :: .slice 1 4 0 l88.length :: iI c83 :: iI c84 :: iI c85 :: iI c86 :: .func (.func q87) [.ptr 0 0] [] :: .slice 4 5 0 l89.length :: []) :: .dead :: .dead :: .dead :: .cells (Yf (cI .u8) l88) :: .cells (Yf Q9.cells l89) :: [] : List AObj)) (fun n1 ⟨c81, c82, c83, c84, c85, c86, q87, l88, l89⟩ => Zq N n1 c81 c82 c83 c84 c85 c86 q87 l88 l89) (x.l.MaxPacket, x.l.MaxDepth, x.from', x.at', x.need, x.e, x.next, (x.kept ++ (chunk.map fun b => (b.toNat : Int))), x.out) h (rho [0, 1, 2, 3, 3, 2]) ⟨(rE rfl <| rX <| rX <| rX <| rX <| rX <| rX <| rX <| rX <| rV <| rN), (hC rfl (rE rfl <| rE rfl <| rL (by first | (simp; done) | (simp [Qv]; done)) rfl <| rE rfl <| rE rfl <| rE rfl <| rE rfl <| rE rfl <| rE rfl <| rN) <| hD <| hD <| hD <| hO rfl <| hO rfl <| hN), rfl, rfl, (roE rfl <| roE rfl <| roE rfl <| roE rfl <| roE (Q2 _ _ _) <| roE (Q2 _ _ _) <| roN)⟩ fun n1 ⟨c81, c82, c83, c84, c85, c86, q87, l88, l89⟩ h => ?_
   simp only [Zq] at h
   rw [cX] at h
   refine fnU h (fun e h => ?_) fun h => ?_
   ·subst e
    refine cG h Uc fun v91 h => ?_
    refine ⟨rho [0, 4, 5], (.cells (iI v91.2.l.MaxPacket :: iI v91.2.l.MaxDepth :: .slice 1 6 0 v91.2.kept.length :: iI v91.2.from' :: iI v91.2.at' :: iI v91.2.need :: iI v91.2.e :: .func (.func v91.2.next) [.ptr 0 0] [] :: .slice 4 7 0 v91.2.out.length :: []) :: .dead :: .dead :: .dead :: .dead :: .dead :: .cells (Yf (cI .u8) v91.2.kept) :: .cells (Yf Q9.cells v91.2.out) :: []), .p (.bool v91.1), ⟨(rE rfl <| rN), (hE rfl <| hO rfl <| hO rfl <| hN), rfl, rfl, (roE rfl <| roE (Q2 _ _ _) <| roE (Q2 _ _ _) <| roN), rfl, (fR 0 rfl rfl rfl rfl <| fD <| fD <| fD <| fD <| fD <| fO 3 rfl rfl rfl <| fO 4 rfl rfl rfl <| fN), rfl⟩, ?_⟩
    apply iU h <;> intro h
    ·show Exists _
     exact ⟨(n1, v91.2.l.MaxPacket, v91.2.l.MaxDepth, v91.2.from', v91.2.at', v91.2.need, v91.2.e, v91.2.next, v91.2.kept, v91.2.out), h, Nat.lt_succ_self _, (rho [0, 1, 2, 3, 6, 7]), ⟨(rE rfl <| rX <| rX <| rX <| rX <| rX <| rX <| rX <| rX <| rV <| rN), (hE rfl <| hD <| hD <| hD <| hO rfl <| hO rfl <| hN), rfl, rfl, (roE rfl <| roE rfl <| roE rfl <| roE rfl <| roE (Q2 _ _ _) <| roE (Q2 _ _ _) <| roN)⟩⟩
    ·apply iU h <;> intro h
     ·refine Qb ?_
      obtain ⟨hk95, h⟩ := Jx h
      obtain ⟨hk96, h⟩ := Jx h
      refine U5 [0] (r := .slice 1 6 (0 + v91.2.from'.toNat * 1) (v91.2.kept.length - v91.2.from'.toNat)) rfl rfl (fun a ha o ho => ?_) (W5 k29 ?_) ?_
      ·simp only [List.mem_cons, List.mem_nil_iff, or_false] at ha; subst ha; cases ho; rfl
      ·refine Qb ?_
       refine Uw hk95 ?_
       refine Uw hk96 ?_
       exact ⟨rfl, [], (List.append_nil _).symm⟩
      refine Qex (l := v91.2.kept) (off := (0 + v91.2.from'.toNat * 1)) (n := (v91.2.kept.length - v91.2.from'.toNat)) (by have e : v91.2.kept.length = (v91.2.kept : List Int).length := (by first | (simp; done) | (simp [Qv]; done)); simp only [Bool.and_eq_true, Nat.ble_eq] at hk96; omega) ?_
      obtain ⟨hk97, h⟩ := Jx h
      refine Uw (Q62 (c := (cI .u8)) (l := (v91.2.kept : List Int)) (fun _ => rfl) (by first | (simp; done) | (simp [Qv]; done)) hk97) ?_
      refine Qb1 (c := (cI .u8)) (l := (v91.2.kept : List Int)) (new := (((v91.2.kept : List Int).drop (0 + v91.2.from'.toNat * 1)).take (v91.2.kept.length - v91.2.from'.toNat))) (fun _ => rfl) ?_
      obtain ⟨hk98, h⟩ := Jx h
      refine Uw hk98 ?_
      refine Qb ?_
      obtain rfl := Qa h
      show Exists _
      exact ⟨(rho [0, 1, 2, 6, 9]), ⟨(rF (Frz.tuple' (.cons (frz_own (c := Q9.cells) (l := (v91.2.out : List Q9)) (fun _ => rfl) rfl rfl (by first | (simp; done) | (simp [Qv]; done))) p1)) <| rN), (hC rfl (rE rfl <| rE rfl <| rL (List.length_take_of_le (l := ((((((v91.2.kept : List Int).drop (0 + v91.2.from'.toNat * 1)).take (v91.2.kept.length - v91.2.from'.toNat)).take v91.2.kept.length) ++ (v91.2.kept : List Int).drop ((((v91.2.kept : List Int).drop (0 + v91.2.from'.toNat * 1)).take (v91.2.kept.length - v91.2.from'.toNat)).take v91.2.kept.length).length) : List Int)) (by have e : v91.2.kept.length = ((((((v91.2.kept : List Int).drop (0 + v91.2.from'.toNat * 1)).take (v91.2.kept.length - v91.2.from'.toNat)).take v91.2.kept.length) ++ (v91.2.kept : List Int).drop ((((v91.2.kept : List Int).drop (0 + v91.2.from'.toNat * 1)).take (v91.2.kept.length - v91.2.from'.toNat)).take v91.2.kept.length).length) : List Int).length := (by simp <;> omega); simp only [Bool.and_eq_true, Nat.ble_eq] at hk98; omega)).symm rfl <| rE rfl <| rE rfl <| rE rfl <| rE rfl <| rE rfl <| rS <| rN) <| hD <| hD <| Qq1 (((((v91.2.kept : List Int).drop (0 + v91.2.from'.toNat * 1)).take (v91.2.kept.length - v91.2.from'.toNat)).take v91.2.kept.length).length) rfl <| hV lb <| hN), rfl, rfl, (roE rfl <| roE rfl <| roE rfl <| roE (Q2 _ _ _) <| roE (Q2 _ _ _) <| roN)⟩⟩
     ·refine Qb ?_
      obtain rfl := Qa h
      show Exists _
      exact ⟨(rho [0, 1, 2, 6, 9]), ⟨(rF (Frz.tuple' (.cons (frz_own (c := Q9.cells) (l := (v91.2.out : List Q9)) (fun _ => rfl) rfl rfl (by first | (simp; done) | (simp [Qv]; done))) p1)) <| rN), (hC rfl (rE rfl <| rE rfl <| rE rfl <| rE rfl <| rE rfl <| rE rfl <| rE rfl <| rE rfl <| rS <| rN) <| hD <| hD <| hO rfl <| hV lb <| hN), rfl, rfl, (roE rfl <| roE rfl <| roE rfl <| roE (Q2 _ _ _) <| roE (Q2 _ _ _) <| roN)⟩⟩
   ·skip
    refine fnU h (fun e h => ?_) fun h => ?_
    ·subst e
     refine cG h Ue fun v100 h => ?_
     refine ⟨rho [0, 4, 5], (.cells (iI v100.2.l.MaxPacket :: iI v100.2.l.MaxDepth :: .slice 1 6 0 v100.2.kept.length :: iI v100.2.from' :: iI v100.2.at' :: iI v100.2.need :: iI v100.2.e :: .func (.func v100.2.next) [.ptr 0 0] [] :: .slice 4 7 0 v100.2.out.length :: []) :: .dead :: .dead :: .dead :: .dead :: .dead :: .cells (Yf (cI .u8) v100.2.kept) :: .cells (Yf Q9.cells v100.2.out) :: []), .p (.bool v100.1), ⟨(rE rfl <| rN), (hE rfl <| hO rfl <| hO rfl <| hN), rfl, rfl, (roE rfl <| roE (Q2 _ _ _) <| roE (Q2 _ _ _) <| roN), rfl, (fR 0 rfl rfl rfl rfl <| fD <| fD <| fD <| fD <| fD <| fO 3 rfl rfl rfl <| fO 4 rfl rfl rfl <| fN), rfl⟩, ?_⟩
     apply iU h <;> intro h
     ·show Exists _
      exact ⟨(n1, v100.2.l.MaxPacket, v100.2.l.MaxDepth, v100.2.from', v100.2.at', v100.2.need, v100.2.e, v100.2.next, v100.2.kept, v100.2.out), h, Nat.lt_succ_self _, (rho [0, 1, 2, 3, 6, 7]), ⟨(rE rfl <| rX <| rX <| rX <| rX <| rX <| rX <| rX <| rX <| rV <| rN), (hE rfl <| hD <| hD <| hD <| hO rfl <| hO rfl <| hN), rfl, rfl, (roE rfl <| roE rfl <| roE rfl <| roE rfl <| roE (Q2 _ _ _) <| roE (Q2 _ _ _) <| roN)⟩⟩
     ·apply iU h <;> intro h
      ·refine Qb ?_
       obtain ⟨hk104, h⟩ := Jx h
       obtain ⟨hk105, h⟩ := Jx h
       refine U5 [0] (r := .slice 1 6 (0 + v100.2.from'.toNat * 1) (v100.2.kept.length - v100.2.from'.toNat)) rfl rfl (fun a ha o ho => ?_) (W5 k29 ?_) ?_
       ·simp only [List.mem_cons, List.mem_nil_iff, or_false] at ha; subst ha; cases ho; rfl
       ·refine Qb ?_
        refine Uw hk104 ?_
        refine Uw hk105 ?_
        exact ⟨rfl, [], (List.append_nil _).symm⟩
       refine Qex (l := v100.2.kept) (off := (0 + v100.2.from'.toNat * 1)) (n := (v100.2.kept.length - v100.2.from'.toNat)) (by have e : v100.2.kept.length = (v100.2.kept : List Int).length := (by first | (simp; done) | (simp [Qv]; done)); simp only [Bool.and_eq_true, Nat.ble_eq] at hk105; omega) ?_
       obtain ⟨hk106, h⟩ := Jx h
       refine Uw (Q62 (c := (cI .u8)) (l := (v100.2.kept : List Int)) (fun _ => rfl) (by first | (simp; done) | (simp [Qv]; done)) hk106) ?_
       refine Qb1 (c := (cI .u8)) (l := (v100.2.kept : List Int)) (new := (((v100.2.kept : List Int).drop (0 + v100.2.from'.toNat * 1)).take (v100.2.kept.length - v100.2.from'.toNat))) (fun _ => rfl) ?_
       obtain ⟨hk107, h⟩ := Jx h
       refine Uw hk107 ?_
       refine Qb ?_
       obtain rfl := Qa h
       show Exists _
       exact ⟨(rho [0, 1, 2, 6, 9]), ⟨(rF (Frz.tuple' (.cons (frz_own (c := Q9.cells) (l := (v100.2.out : List Q9)) (fun _ => rfl) rfl rfl (by first | (simp; done) | (simp [Qv]; done))) p1)) <| rN), (hC rfl (rE rfl <| rE rfl <| rL (List.length_take_of_le (l := ((((((v100.2.kept : List Int).drop (0 + v100.2.from'.toNat * 1)).take (v100.2.kept.length - v100.2.from'.toNat)).take v100.2.kept.length) ++ (v100.2.kept : List Int).drop ((((v100.2.kept : List Int).drop (0 + v100.2.from'.toNat * 1)).take (v100.2.kept.length - v100.2.from'.toNat)).take v100.2.kept.length).length) : List Int)) (by have e : v100.2.kept.length = ((((((v100.2.kept : List Int).drop (0 + v100.2.from'.toNat * 1)).take (v100.2.kept.length - v100.2.from'.toNat)).take v100.2.kept.length) ++ (v100.2.kept : List Int).drop ((((v100.2.kept : List Int).drop (0 + v100.2.from'.toNat * 1)).take (v100.2.kept.length - v100.2.from'.toNat)).take v100.2.kept.length).length) : List Int).length := (by simp <;> omega); simp only [Bool.and_eq_true, Nat.ble_eq] at hk107; omega)).symm rfl <| rE rfl <| rE rfl <| rE rfl <| rE rfl <| rE rfl <| rS <| rN) <| hD <| hD <| Qq1 (((((v100.2.kept : List Int).drop (0 + v100.2.from'.toNat * 1)).take (v100.2.kept.length - v100.2.from'.toNat)).take v100.2.kept.length).length) rfl <| hV lb <| hN), rfl, rfl, (roE rfl <| roE rfl <| roE rfl <| roE (Q2 _ _ _) <| roE (Q2 _ _ _) <| roN)⟩⟩
      ·refine Qb ?_
       obtain rfl := Qa h
       show Exists _
       exact ⟨(rho [0, 1, 2, 6, 9]), ⟨(rF (Frz.tuple' (.cons (frz_own (c := Q9.cells) (l := (v100.2.out : List Q9)) (fun _ => rfl) rfl rfl (by first | (simp; done) | (simp [Qv]; done))) p1)) <| rN), (hC rfl (rE rfl <| rE rfl <| rE rfl <| rE rfl <| rE rfl <| rE rfl <| rE rfl <| rE rfl <| rS <| rN) <| hD <| hD <| hO rfl <| hV lb <| hN), rfl, rfl, (roE rfl <| roE rfl <| roE rfl <| roE (Q2 _ _ _) <| roE (Q2 _ _ _) <| roN)⟩⟩
    ·skip
     first | (cases h; done) | (simp [Qjr] at h; done)
def Ug (_N : Nat) : Option (Qe) :=
 some (⟨4096, 6⟩ : Qe)
theorem Q16 {N} {r} (h : Ug N = some r) : Xe Tryz.prog G1 6 [] (.agg (Qe.cells r)) := by
 refine Qc k6 ?_
 unfold Ug at h
 obtain rfl := Qa h; exact q2
def Vn (_N : Nat) (x : Q5) : Option ((Int) × Q5) :=
 cond (decide (0 ≤ x.from')) (cond (Nat.ble x.from'.toNat x.kept.length && Nat.ble x.kept.length x.kept.length) (some ((((x.kept.length - x.from'.toNat) : Nat) : Int), x)) none) none
theorem Gv {N} {x} {r} (h : Vn N x = some r) : GC Tryz.prog G1 14 (.ptr 0 0 :: []) (.cells (.p (.int .i64 x.l.MaxPacket) :: .p (.int .i64 x.l.MaxDepth) :: .slice 1 1 0 x.kept.length :: .p (.int .i64 x.from') :: .p (.int .i64 x.at') :: .p (.int .i64 x.need) :: .p (.int .i64 x.e) :: .func (.func x.next) [.ptr 0 0] [] :: .slice 4 2 0 x.out.length :: []) :: .cells (Yf (cI .u8) x.kept) :: .cells (Yf Q9.cells x.out) :: []) (.p (.int .i64 r.1)) (.cells (.p (.int .i64 r.2.l.MaxPacket) :: .p (.int .i64 r.2.l.MaxDepth) :: .slice 1 3 0 r.2.kept.length :: .p (.int .i64 r.2.from') :: .p (.int .i64 r.2.at') :: .p (.int .i64 r.2.need) :: .p (.int .i64 r.2.e) :: .func (.func r.2.next) [.ptr 0 0] [] :: .slice 4 4 0 r.2.out.length :: []) :: .dead :: .dead :: .cells (Yf (cI .u8) r.2.kept) :: .cells (Yf Q9.cells r.2.out) :: []) := by
 refine Q2j k14 (Nat.le_of_ble_eq_true rfl) ?_
 unfold Vn at h
 refine W5 k29 ?_
 refine Qb ?_
 refine kU h fun h => ?_
 refine kU h fun h => ?_
 obtain rfl := Qa h
 show Exists _
 exact ⟨(rho [0, 1, 2, 1, 2]), ⟨(rE rfl <| rN), (hE rfl <| hD <| hD <| hO rfl <| hO rfl <| hN), rfl, rfl, (roE rfl <| roE rfl <| roE rfl <| roE (Q2 _ _ _) <| roE (Q2 _ _ _) <| roN)⟩⟩
def Xz (N : Nat) : Option (Bool) :=
 (Ug N).bind fun v1 =>
 (X2 N [] v1).bind fun v3 =>
 cond (Q7 .eql v3.2 2)
 (cond (Q7 .neq v3.2 0)
 (some false)
 (some false))
 ((Qx N (⟨v1, [], 0, 0, 0, 0, 27, []⟩ : Q5) [0, 0, 0, 8]).bind fun v7 =>
 (Qx N v7.2 [2, 0, 0, 1, 0, 0, 0]).bind fun v12 =>
 cond (Q7 .eql v7.1.2 0)
 (cond (Q7 .eql v12.1.2 0)
 (cond (Q7 .eql ((Qv Q9.cells v7.1.1).length : Int) 0)
 (cond (Q7 .eql ((Qv Q9.cells v12.1.1).length : Int) 1)
 ((idx v12.1.1 0).bind fun y18 =>
 cond (Q7 .eql y18.Channel 1)
 ((Vn N v12.2).bind fun v21 =>
 some (Q7 .eql v21.1 3))
 (some false))
 (some false))
 (some false))
 (some false))
 (some false))
theorem Q07 {N} {r} (h : Xz N = some r) : Xe Tryz.prog G1 5 [] (.bool r) := by
 refine Qc k5 ?_
 unfold Xz at h
 rw [cX] at h
 refine cP h Q16 p0 fun v1 h => ?_
 refine W5 k10 ?_
 refine cP h V7 (.cons (.p _) (.cons q2 .nil)) fun v3 h => ?_
 apply iU h <;> intro h
 ·apply iU h <;> intro h
  ·cases h; exact (.p _)
  ·cases h; exact (.p _)
 ·refine ifF (cF (by decide)) ?_
  refine cG h Xp fun v7 h => ?_
  refine ⟨rho [1, 3, 4], (.cells (iI v1.MaxPacket :: iI v1.MaxDepth :: []) :: .cells (iI v7.2.l.MaxPacket :: iI v7.2.l.MaxDepth :: .slice 1 2 0 v7.2.kept.length :: iI v7.2.from' :: iI v7.2.at' :: iI v7.2.need :: iI v7.2.e :: .func (.func v7.2.next) [.ptr 1 0] [] :: .slice 4 3 0 v7.2.out.length :: []) :: .cells (Yf (cI .u8) v7.2.kept) :: .cells (Yf Q9.cells v7.2.out) :: []), .p (.tuple [.slice 4 (Qv Q9.cells v7.1.1), .int .i64 v7.1.2]), ⟨(rE rfl <| rE rfl <| rN), (hC rfl (rE rfl <| rE rfl <| rS <| rE rfl <| rE rfl <| rE rfl <| rE rfl <| rE rfl <| rS <| rN) <| hV lb <| hV lb <| hN), rfl, rfl, (roE rfl <| roE (Q2 _ _ _) <| roE (Q2 _ _ _) <| roN), rfl, (fK rfl rfl <| fR 0 rfl rfl rfl rfl <| fO 3 rfl rfl rfl <| fO 4 rfl rfl rfl <| fN), rfl⟩, ?_⟩
  refine Qlh 4 0 rfl rfl rfl rfl rfl ?_
  refine cG h Xp fun v12 h => ?_
  refine ⟨rho [1, 2, 3], (.cells (iI v1.MaxPacket :: iI v1.MaxDepth :: []) :: .cells (iI v12.2.l.MaxPacket :: iI v12.2.l.MaxDepth :: .slice 1 4 0 v12.2.kept.length :: iI v12.2.from' :: iI v12.2.at' :: iI v12.2.need :: iI v12.2.e :: .func (.func v12.2.next) [.ptr 1 0] [] :: .slice 4 5 0 v12.2.out.length :: []) :: .dead :: .dead :: .cells (Yf (cI .u8) v12.2.kept) :: .cells (Yf Q9.cells v12.2.out) :: []), .p (.tuple [.slice 4 (Qv Q9.cells v12.1.1), .int .i64 v12.1.2]), ⟨(rE rfl <| rE rfl <| rN), (hE rfl <| hO rfl <| hO rfl <| hN), rfl, rfl, (roE rfl <| roE (Q2 _ _ _) <| roE (Q2 _ _ _) <| roN), rfl, (fK rfl rfl <| fR 0 rfl rfl rfl rfl <| fD <| fD <| fO 3 rfl rfl rfl <| fO 4 rfl rfl rfl <| fN), rfl⟩, ?_⟩
  apply iU h <;> intro h
  ·apply iU h <;> intro h
   ·apply iU h <;> intro h
    ·apply iU h <;> intro h
     ·refine xR h fun y18 h => ?_
      apply iU h <;> intro h
      ·refine cG h Gv fun v21 h => ?_
       refine ⟨rho [1, 4, 5], (.cells (iI v1.MaxPacket :: iI v1.MaxDepth :: []) :: .cells (iI v21.2.l.MaxPacket :: iI v21.2.l.MaxDepth :: .slice 1 6 0 v21.2.kept.length :: iI v21.2.from' :: iI v21.2.at' :: iI v21.2.need :: iI v21.2.e :: .func (.func v21.2.next) [.ptr 1 0] [] :: .slice 4 7 0 v21.2.out.length :: []) :: .dead :: .dead :: .dead :: .dead :: .cells (Yf (cI .u8) v21.2.kept) :: .cells (Yf Q9.cells v21.2.out) :: []), iI v21.1, ⟨(rE rfl <| rN), (hE rfl <| hO rfl <| hO rfl <| hN), rfl, rfl, (roE rfl <| roE (Q2 _ _ _) <| roE (Q2 _ _ _) <| roN), rfl, (fK rfl rfl <| fR 0 rfl rfl rfl rfl <| fD <| fD <| fD <| fD <| fO 3 rfl rfl rfl <| fO 4 rfl rfl rfl <| fN), rfl⟩, ?_⟩
       cases h; exact (.p _)
      ·cases h; exact (.p _)
     ·cases h; exact (.p _)
    ·cases h; exact (.p _)
   ·cases h; exact (.p _)
  ·cases h; exact (.p _)
end
end
end Go.Av
