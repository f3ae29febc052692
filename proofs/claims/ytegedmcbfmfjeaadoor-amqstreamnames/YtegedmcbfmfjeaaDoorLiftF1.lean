/- The law. Part of a proof of a given statement: for every input the law returns true and the arguments read as before; no condition beyond the given row. -/
import Derived.Test.YtegedmcbfmfjeaaDoorLiftF0
namespace Go.Av
noncomputable section
open Go.Proofs
set_option maxRecDepth 100000
set_option maxHeartbeats 4000000
attribute [local irreducible] Y9 Zl Q0t Q0p Q90 Qb0 Q2j
section
def Wy (rv : (List UInt8) → Int → Option (Q0 × Int × Int)) (rz : Int → (List UInt8) → Int → Option (Q0 × Int × Int)) (rz1 : (List UInt8) → Int → Option (Q0 × Int × Int)) (ry1 : Y7 → (List UInt8) → Int → Option (Q0 × Int × Int)) (N : Nat) (s_0 : List UInt8) (most : Int) : Option (Q0 × Int × Int) :=
 (Y8 N most).bind fun v1 =>
 cond (!v1)
 (some ((⟨0, 0, [], []⟩ : Q0), 0, 2))
 (cond (Q6t .eql s_0 [])
 (some ((⟨0, 0, [], []⟩ : Q0), 0, 3))
 ((idx s_0 0).bind fun b5 =>
 cond (Nat.ble 1 s_0.length && Nat.ble s_0.length s_0.length) ((rz (IntKind.wrap .i64 (b5.toNat : Int)) ((s_0.take s_0.length).drop 1) most).bind fun v8 =>
 cond (Qc .neq v8.2.2 0)
 (some ((⟨0, 0, [], []⟩ : Q0), 0, v8.2.2))
 (some (v8.1, (IntKind.wrap .i64 (v8.2.1 + 1)), 0))) none))
theorem Jx {rv : (List UInt8) → Int → Option (Q0 × Int × Int)} {rz : Int → (List UInt8) → Int → Option (Q0 × Int × Int)} {rz1 : (List UInt8) → Int → Option (Q0 × Int × Int)} {ry1 : Y7 → (List UInt8) → Int → Option (Q0 × Int × Int)} (hw1 : ∀ {s_0} {most} {r}, rv s_0 most = some r → Yr Tryd.prog G1 11 [.str s_0, .int .i64 most] (.tuple [.agg (Q0.cells r.1), .int .i64 r.2.1, .int .i64 r.2.2])) (hx1 : ∀ {code} {s_1} {most} {r}, rz code s_1 most = some r → Yr Tryd.prog G1 35 [.int .i64 code, .str s_1, .int .i64 most] (.tuple [.agg (Q0.cells r.1), .int .i64 r.2.1, .int .i64 r.2.2])) (hv1 : ∀ {s_0} {most} {r}, rz1 s_0 most = some r → Yr Tryd.prog G1 48 [.str s_0, .int .i64 most] (.tuple [.agg (Q0.cells r.1), .int .i64 r.2.1, .int .i64 r.2.2])) (hy2 : ∀ {c} {s_1} {most} {r}, ry1 c s_1 most = some r → Yr Tryd.prog G1 49 [.agg (Y7.cells c), .str s_1, .int .i64 most] (.tuple [.agg (Q0.cells r.1), .int .i64 r.2.1, .int .i64 r.2.2])) {N} {s_0} {most} {r} (h : Wy rv rz rz1 ry1 N s_0 most = some r) : Yr Tryd.prog G1 11 [.str s_0, .int .i64 most] (.tuple [.agg (Q0.cells r.1), .int .i64 r.2.1, .int .i64 r.2.2]) := by
 refine Qe k11 ?_
 unfold Wy at h
 rw [cX, cY] at h
 refine cP h Xs p1 fun v1 h => ?_
 apply iU h <;> intro h
 ·obtain rfl := Qb h; exact (Frz.tuple' (.cons q4n p2))
 ·apply iU h <;> intro h
  ·obtain rfl := Qb h; exact (Frz.tuple' (.cons q4n p2))
  ·refine Q7 ?_
   refine xB h fun b5 h => ?_
   refine kU h fun h => ?_
   refine cD h hx1 p3 fun v8 h => ?_
   apply iU h <;> intro h
   ·obtain rfl := Qb h; exact (Frz.tuple' (.cons q4n p2))
   ·obtain rfl := Qb h; exact (Frz.tuple' (.cons q4 p2))
def Ws (rv : (List UInt8) → Int → Option (Q0 × Int × Int)) (rz : Int → (List UInt8) → Int → Option (Q0 × Int × Int)) (rz1 : (List UInt8) → Int → Option (Q0 × Int × Int)) (ry1 : Y7 → (List UInt8) → Int → Option (Q0 × Int × Int)) (N : Nat) (code : Int) (s_1 : List UInt8) (most : Int) : Option (Q0 × Int × Int) :=
 (Y8 N most).bind fun v1 =>
 cond (!v1)
 (some ((⟨0, 0, [], []⟩ : Q0), 0, 2))
 ((W9 N code).bind fun v4 =>
 cond (!v4.2)
 (some ((⟨0, 0, [], []⟩ : Q0), 0, 8))
 (cond (!v4.1.Items)
 ((U2 N code s_1).bind fun v8 =>
 some (v8.1, v8.2.1, v8.2.2))
 (cond (Qc .eql most 0)
 (some ((⟨0, 0, [], []⟩ : Q0), 0, 14))
 (cond (Qc .eql v4.1.Kind 25)
 ((rz1 s_1 most).bind fun v12 =>
 some (v12.1, v12.2.1, v12.2.2))
 (cond (!v4.1.Sized)
 (some ((⟨v4.1.Kind, 0, [], []⟩ : Q0), 0, 0))
 ((ry1 v4.1 s_1 most).bind fun v15 =>
 some (v15.1, v15.2.1, v15.2.2)))))))
theorem G8 {rv : (List UInt8) → Int → Option (Q0 × Int × Int)} {rz : Int → (List UInt8) → Int → Option (Q0 × Int × Int)} {rz1 : (List UInt8) → Int → Option (Q0 × Int × Int)} {ry1 : Y7 → (List UInt8) → Int → Option (Q0 × Int × Int)} (hw1 : ∀ {s_0} {most} {r}, rv s_0 most = some r → Yr Tryd.prog G1 11 [.str s_0, .int .i64 most] (.tuple [.agg (Q0.cells r.1), .int .i64 r.2.1, .int .i64 r.2.2])) (hx1 : ∀ {code} {s_1} {most} {r}, rz code s_1 most = some r → Yr Tryd.prog G1 35 [.int .i64 code, .str s_1, .int .i64 most] (.tuple [.agg (Q0.cells r.1), .int .i64 r.2.1, .int .i64 r.2.2])) (hv1 : ∀ {s_0} {most} {r}, rz1 s_0 most = some r → Yr Tryd.prog G1 48 [.str s_0, .int .i64 most] (.tuple [.agg (Q0.cells r.1), .int .i64 r.2.1, .int .i64 r.2.2])) (hy2 : ∀ {c} {s_1} {most} {r}, ry1 c s_1 most = some r → Yr Tryd.prog G1 49 [.agg (Y7.cells c), .str s_1, .int .i64 most] (.tuple [.agg (Q0.cells r.1), .int .i64 r.2.1, .int .i64 r.2.2])) {N} {code} {s_1} {most} {r} (h : Ws rv rz rz1 ry1 N code s_1 most = some r) : Yr Tryd.prog G1 35 [.int .i64 code, .str s_1, .int .i64 most] (.tuple [.agg (Q0.cells r.1), .int .i64 r.2.1, .int .i64 r.2.2]) := by
 refine Qe k35 ?_
 unfold Ws at h
 rw [cX] at h
 refine cP h Xs p1 fun v1 h => ?_
 apply iU h <;> intro h
 ·obtain rfl := Qb h; exact (Frz.tuple' (.cons q4n p2))
 ·refine cP h Xn p1 fun v4 h => ?_
  apply iU h <;> intro h
  ·obtain rfl := Qb h; exact (Frz.tuple' (.cons q4n p2))
  ·apply iU h <;> intro h
   ·refine cP h Q0r p2 fun v8 h => ?_
    obtain rfl := Qb h; exact (Frz.tuple' (.cons q4 p2))
   ·apply iU h <;> intro h
    ·obtain rfl := Qb h; exact (Frz.tuple' (.cons q4n p2))
    ·apply iU h <;> intro h
     ·refine cP h hv1 p2 fun v12 h => ?_
      obtain rfl := Qb h; exact (Frz.tuple' (.cons q4 p2))
     ·apply iU h <;> intro h
      ·obtain rfl := Qb h; exact (Frz.tuple' (.cons q4n p2))
      ·refine cP h hy2 (.cons (Frz.agg' p5) p2) fun v15 h => ?_
       obtain rfl := Qb h; exact (Frz.tuple' (.cons q4 p2))
def Zj (rv : (List UInt8) → Int → Option (Q0 × Int × Int)) (N : Nat) (most : Int) : Nat → Int → (List UInt8) → Int → Int → (List Q0) → Option (Q0 × Int × Int)
 | 0, _, _, _, _, _ => none
 | n + 1, s27, c28, c29, c30, l31 =>
  cond (Qc .lss s27 2)
  ((Qt N (⟨c28, c29, c30⟩ : Q1)).bind fun v33 =>
  (rv v33.1 (IntKind.wrap .i64 (most - 1))).bind fun v35 =>
  cond (Qc .eql v35.2.2 0)
  ((Qh N v33.2 v35.2.1).bind fun v38 =>
  cond (Qc .neq v35.2.2 0)
  (some ((⟨0, 0, [], []⟩ : Q0), 0, v35.2.2))
  (cond (Nat.ble ((l31.length + 1 + 4096) * 56) 17592186044416) (Zj rv N most n (IntKind.wrap .i64 (s27 + 1)) v38.2.text v38.2.at' v38.2.err (l31 ++ [v35.1])) none))
  (cond (Qc .neq v35.2.2 0)
  (some ((⟨0, 0, [], []⟩ : Q0), 0, v35.2.2))
  (cond (Nat.ble ((l31.length + 1 + 4096) * 56) 17592186044416) (Zj rv N most n (IntKind.wrap .i64 (s27 + 1)) v33.2.text v33.2.at' v33.2.err (l31 ++ [v35.1])) none)))
  ((Qz N (⟨c28, c29, c30⟩ : Q1)).bind fun v44 =>
  some ((⟨25, 0, [], l31⟩ : Q0), v44.1, 0))
def Xc (rv : (List UInt8) → Int → Option (Q0 × Int × Int)) (rz : Int → (List UInt8) → Int → Option (Q0 × Int × Int)) (rz1 : (List UInt8) → Int → Option (Q0 × Int × Int)) (ry1 : Y7 → (List UInt8) → Int → Option (Q0 × Int × Int)) (N : Nat) (s_0 : List UInt8) (most : Int) : Option (Q0 × Int × Int) :=
 Zj rv N most N 0 s_0 0 0 []
theorem U1 {rv : (List UInt8) → Int → Option (Q0 × Int × Int)} {rz : Int → (List UInt8) → Int → Option (Q0 × Int × Int)} {rz1 : (List UInt8) → Int → Option (Q0 × Int × Int)} {ry1 : Y7 → (List UInt8) → Int → Option (Q0 × Int × Int)} (hw1 : ∀ {s_0} {most} {r}, rv s_0 most = some r → Yr Tryd.prog G1 11 [.str s_0, .int .i64 most] (.tuple [.agg (Q0.cells r.1), .int .i64 r.2.1, .int .i64 r.2.2])) (hx1 : ∀ {code} {s_1} {most} {r}, rz code s_1 most = some r → Yr Tryd.prog G1 35 [.int .i64 code, .str s_1, .int .i64 most] (.tuple [.agg (Q0.cells r.1), .int .i64 r.2.1, .int .i64 r.2.2])) (hv1 : ∀ {s_0} {most} {r}, rz1 s_0 most = some r → Yr Tryd.prog G1 48 [.str s_0, .int .i64 most] (.tuple [.agg (Q0.cells r.1), .int .i64 r.2.1, .int .i64 r.2.2])) (hy2 : ∀ {c} {s_1} {most} {r}, ry1 c s_1 most = some r → Yr Tryd.prog G1 49 [.agg (Y7.cells c), .str s_1, .int .i64 most] (.tuple [.agg (Q0.cells r.1), .int .i64 r.2.1, .int .i64 r.2.2])) {N} {s_0} {most} {r} (h : Xc rv rz rz1 ry1 N s_0 most = some r) : Yr Tryd.prog G1 48 [.str s_0, .int .i64 most] (.tuple [.agg (Q0.cells r.1), .int .i64 r.2.1, .int .i64 r.2.2]) := by
 refine Qe k48 ?_
 unfold Xc at h
 refine Ze k67 ?_
 refine lpC (τ := Int × (List UInt8) × Int × Int × (List Q0)) (fun ⟨s27, _, _, _, _⟩ => (a4 (.ptr 0 0 :: .any :: .any :: .ptr 2 0 :: a8 (iI s27 :: a16 (a4 (.any :: [])))) : List AV)) (fun ⟨_, c28, c29, c30, l31⟩ => (.cells (iI 25 :: iW 0 :: iS [] :: .slice 4 3 0 l31.length :: []) :: .cells (iS c28 :: iI c29 :: iI c30 :: []) :: .cells (.ptr 1 0 :: iI (IntKind.wrap .i64 (most - 1)) :: []) :: .cells (Z2 Q0.cells l31) :: [] : List AObj)) (fun n0 ⟨s27, c28, c29, c30, l31⟩ => Zj rv N most n0 s27 c28 c29 c30 l31) (0, s_0, 0, 0, []) h (fun i => i) ⟨(rV <| rE rfl <| rW <| rE rfl <| rX <| rE rfl <| rX <| rX <| rV <| rA <| rN), (hC rfl (rE rfl <| rE rfl <| rE rfl <| rS <| rN) <| hE rfl <| hE rfl <| hV lb <| hN), rfl, rfl, (roE rfl <| roE rfl <| roE rfl <| roE (Q2 _ _ _) <| roN)⟩ fun n0 ⟨s27, c28, c29, c30, l31⟩ h => ?_
 simp only [Zj] at h
 rw [cX] at h
 apply iU h <;> intro h
 ·refine Ze k75 ?_
  refine ifT (cF (by decide)) ?_
  refine Q7 ?_
  refine dM h Qx rfl p0 fun v33 h => ?_
  refine cD h hw1 p2 fun v35 h => ?_
  apply iU h <;> intro h
  ·refine cM h Qg rfl p1 fun v38 h => ?_
   apply iU h <;> intro h
   ·obtain rfl := Qb h; exact (Frz.tuple' (.cons q4n p2))
   ·obtain ⟨hk41, h⟩ := Vq h
    refine V5 (Ys (c := Q0.cells) (e := 4) (fun _ => rfl) (by first | (simp; done) | (simp [Qp]; done)) hk41) ?_
    refine W6 (c := Q0.cells) [v35.1] rfl ?_
    show Exists _
    exact ⟨(n0, (IntKind.wrap .i64 (s27 + 1)), v38.2.text, v38.2.at', v38.2.err, (l31 ++ [v35.1])), h, Nat.lt_succ_self _, (rho [0, 1, 2, 9]), ⟨(rV <| rE rfl <| rW <| rE rfl <| rX <| rE rfl <| rX <| rX <| rV <| rA <| rN), (hC rfl (rE rfl <| rE rfl <| rE rfl <| rL (by first | (simp; done) | (simp [Qp]; done)) rfl <| rN) <| hE rfl <| hE rfl <| hO rfl <| hN), rfl, rfl, (roE rfl <| roE rfl <| roE rfl <| roE (Q2 _ _ _) <| roN)⟩⟩
  ·apply iU h <;> intro h
   ·obtain rfl := Qb h; exact (Frz.tuple' (.cons q4n p2))
   ·obtain ⟨hk43, h⟩ := Vq h
    refine V5 (Ys (c := Q0.cells) (e := 4) (fun _ => rfl) (by first | (simp; done) | (simp [Qp]; done)) hk43) ?_
    refine W6 (c := Q0.cells) [v35.1] rfl ?_
    show Exists _
    exact ⟨(n0, (IntKind.wrap .i64 (s27 + 1)), v33.2.text, v33.2.at', v33.2.err, (l31 ++ [v35.1])), h, Nat.lt_succ_self _, (rho [0, 1, 2, 9]), ⟨(rV <| rE rfl <| rW <| rE rfl <| rX <| rE rfl <| rX <| rX <| rV <| rA <| rN), (hC rfl (rE rfl <| rE rfl <| rE rfl <| rL (by first | (simp; done) | (simp [Qp]; done)) rfl <| rN) <| hE rfl <| hE rfl <| hO rfl <| hN), rfl, rfl, (roE rfl <| roE rfl <| roE rfl <| roE (Q2 _ _ _) <| roN)⟩⟩
 ·refine Q7 ?_
  refine dM h Qy rfl p0 fun v44 h => ?_
  obtain rfl := Qb h; exact (Frz.tuple' (.cons (Frz.agg' (.cons (.p _) (.cons (.p _) (.cons (.p _) (.cons (Q0.frz_own (l := l31) rfl trivial (by first | (simp; done) | (simp [Qp]; done))) .nil))))) p2))
def Zg (rv : (List UInt8) → Int → Option (Q0 × Int × Int)) (rz : Int → (List UInt8) → Int → Option (Q0 × Int × Int)) (N : Nat) (c : Y7) (most : Int) (v9 : (List UInt8) × Q1) (v11 : (Int) × Q1) (v23 : (Int) × Q1) (v25 : Y7 × Bool) : Nat → Int → (List UInt8) → Int → Int → (List Q0) → Option (Q0 × Int × Int)
 | 0, _, _, _, _, _ => none
 | n + 1, s86, c87, c88, c89, l90 =>
  cond (Qc .lss s86 v11.1)
  (cond (Qc .lss (IntKind.wrap .i64 v23.1) 0)
  ((Qt N (⟨c87, c88, c89⟩ : Q1)).bind fun v93 =>
  (rv v93.1 (IntKind.wrap .i64 (most - 1))).bind fun v95 =>
  cond (Qc .eql v95.2.2 0)
  ((Qh N v93.2 v95.2.1).bind fun v98 =>
  cond (Qc .eql v95.2.2 3)
  (some ((⟨0, 0, [], []⟩ : Q0), 0, 5))
  (cond (Qc .neq v95.2.2 0)
  (some ((⟨0, 0, [], []⟩ : Q0), 0, v95.2.2))
  (cond (Nat.ble ((l90.length + 1 + 4096) * 56) 17592186044416) (Zg rv rz N c most v9 v11 v23 v25 n (IntKind.wrap .u64 (s86 + 1)) v98.2.text v98.2.at' v98.2.err (l90 ++ [v95.1])) none)))
  (cond (Qc .eql v95.2.2 3)
  (some ((⟨0, 0, [], []⟩ : Q0), 0, 5))
  (cond (Qc .neq v95.2.2 0)
  (some ((⟨0, 0, [], []⟩ : Q0), 0, v95.2.2))
  (cond (Nat.ble ((l90.length + 1 + 4096) * 56) 17592186044416) (Zg rv rz N c most v9 v11 v23 v25 n (IntKind.wrap .u64 (s86 + 1)) v93.2.text v93.2.at' v93.2.err (l90 ++ [v95.1])) none))))
  ((Qt N (⟨c87, c88, c89⟩ : Q1)).bind fun v106 =>
  (rz (IntKind.wrap .i64 v23.1) v106.1 (IntKind.wrap .i64 (most - 1))).bind fun v108 =>
  cond (Qc .eql v108.2.2 0)
  ((Qh N v106.2 v108.2.1).bind fun v111 =>
  cond (Qc .eql v108.2.2 3)
  (some ((⟨0, 0, [], []⟩ : Q0), 0, 5))
  (cond (Qc .neq v108.2.2 0)
  (some ((⟨0, 0, [], []⟩ : Q0), 0, v108.2.2))
  (cond (Nat.ble ((l90.length + 1 + 4096) * 56) 17592186044416) (Zg rv rz N c most v9 v11 v23 v25 n (IntKind.wrap .u64 (s86 + 1)) v111.2.text v111.2.at' v111.2.err (l90 ++ [v108.1])) none)))
  (cond (Qc .eql v108.2.2 3)
  (some ((⟨0, 0, [], []⟩ : Q0), 0, 5))
  (cond (Qc .neq v108.2.2 0)
  (some ((⟨0, 0, [], []⟩ : Q0), 0, v108.2.2))
  (cond (Nat.ble ((l90.length + 1 + 4096) * 56) 17592186044416) (Zg rv rz N c most v9 v11 v23 v25 n (IntKind.wrap .u64 (s86 + 1)) v106.2.text v106.2.at' v106.2.err (l90 ++ [v108.1])) none)))))
  ((Qu N (⟨c87, c88, c89⟩ : Q1)).bind fun v119 =>
  cond (Qc .neq v119.1 0)
  (some ((⟨0, 0, [], []⟩ : Q0), 0, 5))
  ((Yd N (⟨c.Kind, (IntKind.wrap .u64 v25.1.Kind), [], l90⟩ : Q0)).bind fun v122 =>
  cond (Qc .neq v122 0)
  (some ((⟨0, 0, [], []⟩ : Q0), 0, v122))
  ((Qz N v9.2).bind fun v125 =>
  some ((⟨c.Kind, (IntKind.wrap .u64 v25.1.Kind), [], l90⟩ : Q0), v125.1, 0))))
def Zy (rv : (List UInt8) → Int → Option (Q0 × Int × Int)) (N : Nat) (c : Y7) (most : Int) (v9 : (List UInt8) × Q1) (v11 : (Int) × Q1) : Nat → Int → (List UInt8) → Int → Int → (List Q0) → Option (Q0 × Int × Int)
 | 0, _, _, _, _, _ => none
 | n + 1, s158, c159, c160, c161, l162 =>
  cond (Qc .lss s158 v11.1)
  ((Qt N (⟨c159, c160, c161⟩ : Q1)).bind fun v164 =>
  (rv v164.1 (IntKind.wrap .i64 (most - 1))).bind fun v166 =>
  cond (Qc .eql v166.2.2 0)
  ((Qh N v164.2 v166.2.1).bind fun v169 =>
  cond (Qc .eql v166.2.2 3)
  (some ((⟨0, 0, [], []⟩ : Q0), 0, 5))
  (cond (Qc .neq v166.2.2 0)
  (some ((⟨0, 0, [], []⟩ : Q0), 0, v166.2.2))
  (cond (Nat.ble ((l162.length + 1 + 4096) * 56) 17592186044416) (Zy rv N c most v9 v11 n (IntKind.wrap .u64 (s158 + 1)) v169.2.text v169.2.at' v169.2.err (l162 ++ [v166.1])) none)))
  (cond (Qc .eql v166.2.2 3)
  (some ((⟨0, 0, [], []⟩ : Q0), 0, 5))
  (cond (Qc .neq v166.2.2 0)
  (some ((⟨0, 0, [], []⟩ : Q0), 0, v166.2.2))
  (cond (Nat.ble ((l162.length + 1 + 4096) * 56) 17592186044416) (Zy rv N c most v9 v11 n (IntKind.wrap .u64 (s158 + 1)) v164.2.text v164.2.at' v164.2.err (l162 ++ [v166.1])) none))))
  ((Qu N (⟨c159, c160, c161⟩ : Q1)).bind fun v177 =>
  cond (Qc .neq v177.1 0)
  (some ((⟨0, 0, [], []⟩ : Q0), 0, 5))
  ((Yd N (⟨c.Kind, 0, [], l162⟩ : Q0)).bind fun v180 =>
  cond (Qc .neq v180 0)
  (some ((⟨0, 0, [], []⟩ : Q0), 0, v180))
  ((Qz N v9.2).bind fun v183 =>
  some ((⟨c.Kind, 0, [], l162⟩ : Q0), v183.1, 0))))
def Zh (rv : (List UInt8) → Int → Option (Q0 × Int × Int)) (rz : Int → (List UInt8) → Int → Option (Q0 × Int × Int)) (N : Nat) (c : Y7) (most : Int) (v9 : (List UInt8) × Q1) (v11 : (Int) × Q1) (v189 : (Int) × Q1) (v191 : Y7 × Bool) : Nat → Int → (List UInt8) → Int → Int → (List Q0) → Option (Q0 × Int × Int)
 | 0, _, _, _, _, _ => none
 | n + 1, s252, c253, c254, c255, l256 =>
  cond (Qc .lss s252 v11.1)
  (cond (Qc .lss (IntKind.wrap .i64 v189.1) 0)
  ((Qt N (⟨c253, c254, c255⟩ : Q1)).bind fun v259 =>
  (rv v259.1 (IntKind.wrap .i64 (most - 1))).bind fun v261 =>
  cond (Qc .eql v261.2.2 0)
  ((Qh N v259.2 v261.2.1).bind fun v264 =>
  cond (Qc .eql v261.2.2 3)
  (some ((⟨0, 0, [], []⟩ : Q0), 0, 5))
  (cond (Qc .neq v261.2.2 0)
  (some ((⟨0, 0, [], []⟩ : Q0), 0, v261.2.2))
  (cond (Nat.ble ((l256.length + 1 + 4096) * 56) 17592186044416) (Zh rv rz N c most v9 v11 v189 v191 n (IntKind.wrap .u64 (s252 + 1)) v264.2.text v264.2.at' v264.2.err (l256 ++ [v261.1])) none)))
  (cond (Qc .eql v261.2.2 3)
  (some ((⟨0, 0, [], []⟩ : Q0), 0, 5))
  (cond (Qc .neq v261.2.2 0)
  (some ((⟨0, 0, [], []⟩ : Q0), 0, v261.2.2))
  (cond (Nat.ble ((l256.length + 1 + 4096) * 56) 17592186044416) (Zh rv rz N c most v9 v11 v189 v191 n (IntKind.wrap .u64 (s252 + 1)) v259.2.text v259.2.at' v259.2.err (l256 ++ [v261.1])) none))))
  ((Qt N (⟨c253, c254, c255⟩ : Q1)).bind fun v272 =>
  (rz (IntKind.wrap .i64 v189.1) v272.1 (IntKind.wrap .i64 (most - 1))).bind fun v274 =>
  cond (Qc .eql v274.2.2 0)
  ((Qh N v272.2 v274.2.1).bind fun v277 =>
  cond (Qc .eql v274.2.2 3)
  (some ((⟨0, 0, [], []⟩ : Q0), 0, 5))
  (cond (Qc .neq v274.2.2 0)
  (some ((⟨0, 0, [], []⟩ : Q0), 0, v274.2.2))
  (cond (Nat.ble ((l256.length + 1 + 4096) * 56) 17592186044416) (Zh rv rz N c most v9 v11 v189 v191 n (IntKind.wrap .u64 (s252 + 1)) v277.2.text v277.2.at' v277.2.err (l256 ++ [v274.1])) none)))
  (cond (Qc .eql v274.2.2 3)
  (some ((⟨0, 0, [], []⟩ : Q0), 0, 5))
  (cond (Qc .neq v274.2.2 0)
  (some ((⟨0, 0, [], []⟩ : Q0), 0, v274.2.2))
  (cond (Nat.ble ((l256.length + 1 + 4096) * 56) 17592186044416) (Zh rv rz N c most v9 v11 v189 v191 n (IntKind.wrap .u64 (s252 + 1)) v272.2.text v272.2.at' v272.2.err (l256 ++ [v274.1])) none)))))
  ((Qu N (⟨c253, c254, c255⟩ : Q1)).bind fun v285 =>
  cond (Qc .neq v285.1 0)
  (some ((⟨0, 0, [], []⟩ : Q0), 0, 5))
  ((Yd N (⟨c.Kind, (IntKind.wrap .u64 v191.1.Kind), [], l256⟩ : Q0)).bind fun v288 =>
  cond (Qc .neq v288 0)
  (some ((⟨0, 0, [], []⟩ : Q0), 0, v288))
  ((Qz N v9.2).bind fun v291 =>
  some ((⟨c.Kind, (IntKind.wrap .u64 v191.1.Kind), [], l256⟩ : Q0), v291.1, 0))))
def Zz (rv : (List UInt8) → Int → Option (Q0 × Int × Int)) (N : Nat) (c : Y7) (most : Int) (v9 : (List UInt8) × Q1) (v11 : (Int) × Q1) : Nat → Int → (List UInt8) → Int → Int → (List Q0) → Option (Q0 × Int × Int)
 | 0, _, _, _, _, _ => none
 | n + 1, s324, c325, c326, c327, l328 =>
  cond (Qc .lss s324 v11.1)
  ((Qt N (⟨c325, c326, c327⟩ : Q1)).bind fun v330 =>
  (rv v330.1 (IntKind.wrap .i64 (most - 1))).bind fun v332 =>
  cond (Qc .eql v332.2.2 0)
  ((Qh N v330.2 v332.2.1).bind fun v335 =>
  cond (Qc .eql v332.2.2 3)
  (some ((⟨0, 0, [], []⟩ : Q0), 0, 5))
  (cond (Qc .neq v332.2.2 0)
  (some ((⟨0, 0, [], []⟩ : Q0), 0, v332.2.2))
  (cond (Nat.ble ((l328.length + 1 + 4096) * 56) 17592186044416) (Zz rv N c most v9 v11 n (IntKind.wrap .u64 (s324 + 1)) v335.2.text v335.2.at' v335.2.err (l328 ++ [v332.1])) none)))
  (cond (Qc .eql v332.2.2 3)
  (some ((⟨0, 0, [], []⟩ : Q0), 0, 5))
  (cond (Qc .neq v332.2.2 0)
  (some ((⟨0, 0, [], []⟩ : Q0), 0, v332.2.2))
  (cond (Nat.ble ((l328.length + 1 + 4096) * 56) 17592186044416) (Zz rv N c most v9 v11 n (IntKind.wrap .u64 (s324 + 1)) v330.2.text v330.2.at' v330.2.err (l328 ++ [v332.1])) none))))
  ((Qu N (⟨c325, c326, c327⟩ : Q1)).bind fun v343 =>
  cond (Qc .neq v343.1 0)
  (some ((⟨0, 0, [], []⟩ : Q0), 0, 5))
  ((Yd N (⟨c.Kind, 0, [], l328⟩ : Q0)).bind fun v346 =>
  cond (Qc .neq v346 0)
  (some ((⟨0, 0, [], []⟩ : Q0), 0, v346))
  ((Qz N v9.2).bind fun v349 =>
  some ((⟨c.Kind, 0, [], l328⟩ : Q0), v349.1, 0))))
def Wc (rv : (List UInt8) → Int → Option (Q0 × Int × Int)) (rz : Int → (List UInt8) → Int → Option (Q0 × Int × Int)) (rz1 : (List UInt8) → Int → Option (Q0 × Int × Int)) (ry1 : Y7 → (List UInt8) → Int → Option (Q0 × Int × Int)) (N : Nat) (c : Y7) (s_1 : List UInt8) (most : Int) : Option (Q0 × Int × Int) :=
 (Z0 N (⟨s_1, 0, 0⟩ : Q1) c.Width).bind fun v1 =>
 (Qq N v1.2).bind fun v3 =>
 cond (Qc .neq v3.1 0)
 (some ((⟨0, 0, [], []⟩ : Q0), 0, 3))
 ((Qu N v3.2).bind fun v6 =>
 cond (Qc .gtr v1.1 (IntKind.wrap .u64 v6.1))
 (some ((⟨0, 0, [], []⟩ : Q0), 0, 3))
 ((Qh N v6.2 (IntKind.wrap .i64 v1.1)).bind fun v9 =>
 (Z0 N (⟨v9.1, 0, 0⟩ : Q1) c.Width).bind fun v11 =>
 (Qq N v11.2).bind fun v13 =>
 cond (Qc .neq v13.1 0)
 (some ((⟨0, 0, [], []⟩ : Q0), 0, 5))
 (cond (Qc .gtr v11.1 1000)
 (some ((⟨0, 0, [], []⟩ : Q0), 0, 4))
 (cond (Qc .eql c.Kind 23)
 (cond (Qc .neq ((v11.1 : Int).tmod 2) 0)
 (some ((⟨0, 0, [], []⟩ : Q0), 0, 5))
 (cond (Qc .eql c.Kind 24)
 ((Qu N v13.2).bind fun v20 =>
 cond (Qc .eql v20.1 0)
 (some ((⟨0, 0, [], []⟩ : Q0), 0, 5))
 ((Z0 N v20.2 1).bind fun v23 =>
 (W9 N (IntKind.wrap .i64 v23.1)).bind fun v25 =>
 cond (!v25.2)
 (some ((⟨0, 0, [], []⟩ : Q0), 0, 8))
 (cond (Qc .eql (IntKind.wrap .i64 v23.1) 0)
 (some ((⟨0, 0, [], []⟩ : Q0), 0, 8))
 (Zg rv rz N c most v9 v11 v23 v25 N 0 v23.2.text v23.2.at' v23.2.err []))))
 (Zy rv N c most v9 v11 N 0 v13.2.text v13.2.at' v13.2.err [])))
 (cond (Qc .eql c.Kind 24)
 ((Qu N v13.2).bind fun v186 =>
 cond (Qc .eql v186.1 0)
 (some ((⟨0, 0, [], []⟩ : Q0), 0, 5))
 ((Z0 N v186.2 1).bind fun v189 =>
 (W9 N (IntKind.wrap .i64 v189.1)).bind fun v191 =>
 cond (!v191.2)
 (some ((⟨0, 0, [], []⟩ : Q0), 0, 8))
 (cond (Qc .eql (IntKind.wrap .i64 v189.1) 0)
 (some ((⟨0, 0, [], []⟩ : Q0), 0, 8))
 (Zh rv rz N c most v9 v11 v189 v191 N 0 v189.2.text v189.2.at' v189.2.err []))))
 (Zz rv N c most v9 v11 N 0 v13.2.text v13.2.at' v13.2.err []))))))
theorem Jn {rv : (List UInt8) → Int → Option (Q0 × Int × Int)} {rz : Int → (List UInt8) → Int → Option (Q0 × Int × Int)} {rz1 : (List UInt8) → Int → Option (Q0 × Int × Int)} {ry1 : Y7 → (List UInt8) → Int → Option (Q0 × Int × Int)} (hw1 : ∀ {s_0} {most} {r}, rv s_0 most = some r → Yr Tryd.prog G1 11 [.str s_0, .int .i64 most] (.tuple [.agg (Q0.cells r.1), .int .i64 r.2.1, .int .i64 r.2.2])) (hx1 : ∀ {code} {s_1} {most} {r}, rz code s_1 most = some r → Yr Tryd.prog G1 35 [.int .i64 code, .str s_1, .int .i64 most] (.tuple [.agg (Q0.cells r.1), .int .i64 r.2.1, .int .i64 r.2.2])) (hv1 : ∀ {s_0} {most} {r}, rz1 s_0 most = some r → Yr Tryd.prog G1 48 [.str s_0, .int .i64 most] (.tuple [.agg (Q0.cells r.1), .int .i64 r.2.1, .int .i64 r.2.2])) (hy2 : ∀ {c} {s_1} {most} {r}, ry1 c s_1 most = some r → Yr Tryd.prog G1 49 [.agg (Y7.cells c), .str s_1, .int .i64 most] (.tuple [.agg (Q0.cells r.1), .int .i64 r.2.1, .int .i64 r.2.2])) {N} {c} {s_1} {most} {r} (h : Wc rv rz rz1 ry1 N c s_1 most = some r) : Yr Tryd.prog G1 49 [.agg (Y7.cells c), .str s_1, .int .i64 most] (.tuple [.agg (Q0.cells r.1), .int .i64 r.2.1, .int .i64 r.2.2]) := by
 refine Qe k49 ?_
 unfold Wc at h
 rw [cX] at h
 refine Ze k67 ?_
 refine cM h Z8 rfl p1 fun v1 h => ?_
 refine cM h Qo rfl p0 fun v3 h => ?_
 apply iU h <;> intro h
 ·obtain rfl := Qb h; exact (Frz.tuple' (.cons q4n p2))
 ·refine cM h Qw rfl p0 fun v6 h => ?_
  apply iU h <;> intro h
  ·obtain rfl := Qb h; exact (Frz.tuple' (.cons q4n p2))
  ·refine cM h Qg rfl p1 fun v9 h => ?_
   refine Ze k67 ?_
   refine cM h Z8 rfl p1 fun v11 h => ?_
   refine cM h Qo rfl p0 fun v13 h => ?_
   apply iU h <;> intro h
   ·obtain rfl := Qb h; exact (Frz.tuple' (.cons q4n p2))
   ·apply iU h <;> intro h
    ·obtain rfl := Qb h; exact (Frz.tuple' (.cons q4n p2))
    ·apply iU h <;> intro h
     ·apply iU h <;> intro h
      ·obtain rfl := Qb h; exact (Frz.tuple' (.cons q4n p2))
      ·apply iU h <;> intro h
       ·refine cM h Qw rfl p0 fun v20 h => ?_
        apply iU h <;> intro h
        ·obtain rfl := Qb h; exact (Frz.tuple' (.cons q4n p2))
        ·refine cM h Z8 rfl p1 fun v23 h => ?_
         refine cP h Xn p1 fun v25 h => ?_
         apply iU h <;> intro h
         ·obtain rfl := Qb h; exact (Frz.tuple' (.cons q4n p2))
         ·apply iU h <;> intro h
          ·obtain rfl := Qb h; exact (Frz.tuple' (.cons q4n p2))
          ·refine lpC (τ := Int × (List UInt8) × Int × Int × (List Q0)) (fun ⟨s86, _, _, _, _⟩ => (a4 (a2 (.ptr 1 0 :: .any :: .any :: .ptr 2 0 :: .any :: .ptr 4 0 :: .any :: iI (IntKind.wrap .i64 v23.1) :: a16 (a16 (a16 (a16 (a16 (a2 (.any :: iW v11.1 :: iW s86 :: a16 (a16 (a2 ([]))))))))))) : List AV)) (fun ⟨_, c87, c88, c89, l90⟩ => (.cells (iI c.Code :: iI c.Kind :: iI c.Width :: .p (.bool c.Sized) :: .p (.bool c.Items) :: []) :: .cells (iI c.Kind :: iW (IntKind.wrap .u64 v25.1.Kind) :: iS [] :: .slice 4 6 0 l90.length :: []) :: .cells (iS v9.2.text :: iI v9.2.at' :: iI v9.2.err :: []) :: .cells (iS c87 :: iI c88 :: iI c89 :: []) :: .cells (.ptr 3 0 :: iI (IntKind.wrap .i64 (most - 1)) :: []) :: .cells (iI v25.1.Code :: iI v25.1.Kind :: iI v25.1.Width :: .p (.bool v25.1.Sized) :: .p (.bool v25.1.Items) :: []) :: .cells (Z2 Q0.cells l90) :: [] : List AObj)) (fun n0 ⟨s86, c87, c88, c89, l90⟩ => Zg rv rz N c most v9 v11 v23 v25 n0 s86 c87 c88 c89 l90) (0, v23.2.text, v23.2.at', v23.2.err, []) h (fun i => i) ⟨(rV <| rW <| rE rfl <| rW <| rE rfl <| rA <| rE rfl <| rA <| rE rfl <| rX <| rX <| rX <| rX <| rX <| rX <| rX <| rX <| rX <| rX <| rW <| rA <| rE rfl <| rE rfl <| rX <| rX <| rX <| rX <| rW <| rN), (hE rfl <| hC rfl (rE rfl <| rE rfl <| rE rfl <| rS <| rN) <| hE rfl <| hE rfl <| hE rfl <| hE rfl <| hV lb <| hN), rfl, rfl, (roE rfl <| roE rfl <| roE rfl <| roE rfl <| roE rfl <| roE rfl <| roE (Q2 _ _ _) <| roN)⟩ fun n0 ⟨s86, c87, c88, c89, l90⟩ h => ?_
           simp only [Zg] at h
           rw [cX] at h
           apply iU h <;> intro h
           ·refine Ze k75 ?_
            apply iU h <;> intro h
            ·refine Q7 ?_
             refine dM h Qx rfl p0 fun v93 h => ?_
             refine cD h hw1 p2 fun v95 h => ?_
             apply iU h <;> intro h
             ·refine cM h Qg rfl p1 fun v98 h => ?_
              apply iU h <;> intro h
              ·refine ifT (cF (by decide)) ?_
               obtain rfl := Qb h; exact (Frz.tuple' (.cons q4n p2))
              ·apply iU h <;> intro h
               ·obtain rfl := Qb h; exact (Frz.tuple' (.cons q4n p2))
               ·obtain ⟨hk102, h⟩ := Vq h
                refine V5 (Ys (c := Q0.cells) (e := 4) (fun _ => rfl) (by first | (simp; done) | (simp [Qp]; done)) hk102) ?_
                refine W6 (c := Q0.cells) [v95.1] rfl ?_
                show Exists _
                exact ⟨(n0, (IntKind.wrap .u64 (s86 + 1)), v98.2.text, v98.2.at', v98.2.err, (l90 ++ [v95.1])), h, Nat.lt_succ_self _, (rho [0, 1, 2, 3, 4, 5, 12]), ⟨(rV <| rW <| rE rfl <| rW <| rE rfl <| rA <| rE rfl <| rA <| rE rfl <| rX <| rX <| rX <| rX <| rX <| rX <| rX <| rX <| rX <| rX <| rW <| rA <| rE rfl <| rE rfl <| rX <| rX <| rX <| rX <| rW <| rN), (hE rfl <| hC rfl (rE rfl <| rE rfl <| rE rfl <| rL (by first | (simp; done) | (simp [Qp]; done)) rfl <| rN) <| hE rfl <| hE rfl <| hE rfl <| hE rfl <| hO rfl <| hN), rfl, rfl, (roE rfl <| roE rfl <| roE rfl <| roE rfl <| roE rfl <| roE rfl <| roE (Q2 _ _ _) <| roN)⟩⟩
             ·apply iU h <;> intro h
              ·refine ifT (cF (by decide)) ?_
               obtain rfl := Qb h; exact (Frz.tuple' (.cons q4n p2))
              ·apply iU h <;> intro h
               ·obtain rfl := Qb h; exact (Frz.tuple' (.cons q4n p2))
               ·obtain ⟨hk105, h⟩ := Vq h
                refine V5 (Ys (c := Q0.cells) (e := 4) (fun _ => rfl) (by first | (simp; done) | (simp [Qp]; done)) hk105) ?_
                refine W6 (c := Q0.cells) [v95.1] rfl ?_
                show Exists _
                exact ⟨(n0, (IntKind.wrap .u64 (s86 + 1)), v93.2.text, v93.2.at', v93.2.err, (l90 ++ [v95.1])), h, Nat.lt_succ_self _, (rho [0, 1, 2, 3, 4, 5, 12]), ⟨(rV <| rW <| rE rfl <| rW <| rE rfl <| rA <| rE rfl <| rA <| rE rfl <| rX <| rX <| rX <| rX <| rX <| rX <| rX <| rX <| rX <| rX <| rW <| rA <| rE rfl <| rE rfl <| rX <| rX <| rX <| rX <| rW <| rN), (hE rfl <| hC rfl (rE rfl <| rE rfl <| rE rfl <| rL (by first | (simp; done) | (simp [Qp]; done)) rfl <| rN) <| hE rfl <| hE rfl <| hE rfl <| hE rfl <| hO rfl <| hN), rfl, rfl, (roE rfl <| roE rfl <| roE rfl <| roE rfl <| roE rfl <| roE rfl <| roE (Q2 _ _ _) <| roN)⟩⟩
            ·refine Q7 ?_
             refine dM h Qx rfl p0 fun v106 h => ?_
             refine cD h hx1 p3 fun v108 h => ?_
             apply iU h <;> intro h
             ·refine cM h Qg rfl p1 fun v111 h => ?_
              apply iU h <;> intro h
              ·refine ifT (cF (by decide)) ?_
               obtain rfl := Qb h; exact (Frz.tuple' (.cons q4n p2))
              ·apply iU h <;> intro h
               ·obtain rfl := Qb h; exact (Frz.tuple' (.cons q4n p2))
               ·obtain ⟨hk115, h⟩ := Vq h
                refine V5 (Ys (c := Q0.cells) (e := 4) (fun _ => rfl) (by first | (simp; done) | (simp [Qp]; done)) hk115) ?_
                refine W6 (c := Q0.cells) [v108.1] rfl ?_
                show Exists _
                exact ⟨(n0, (IntKind.wrap .u64 (s86 + 1)), v111.2.text, v111.2.at', v111.2.err, (l90 ++ [v108.1])), h, Nat.lt_succ_self _, (rho [0, 1, 2, 3, 4, 5, 12]), ⟨(rV <| rW <| rE rfl <| rW <| rE rfl <| rA <| rE rfl <| rA <| rE rfl <| rX <| rX <| rX <| rX <| rX <| rX <| rX <| rX <| rX <| rX <| rW <| rA <| rE rfl <| rE rfl <| rX <| rX <| rX <| rX <| rW <| rN), (hE rfl <| hC rfl (rE rfl <| rE rfl <| rE rfl <| rL (by first | (simp; done) | (simp [Qp]; done)) rfl <| rN) <| hE rfl <| hE rfl <| hE rfl <| hE rfl <| hO rfl <| hN), rfl, rfl, (roE rfl <| roE rfl <| roE rfl <| roE rfl <| roE rfl <| roE rfl <| roE (Q2 _ _ _) <| roN)⟩⟩
             ·apply iU h <;> intro h
              ·refine ifT (cF (by decide)) ?_
               obtain rfl := Qb h; exact (Frz.tuple' (.cons q4n p2))
              ·apply iU h <;> intro h
               ·obtain rfl := Qb h; exact (Frz.tuple' (.cons q4n p2))
               ·obtain ⟨hk118, h⟩ := Vq h
                refine V5 (Ys (c := Q0.cells) (e := 4) (fun _ => rfl) (by first | (simp; done) | (simp [Qp]; done)) hk118) ?_
                refine W6 (c := Q0.cells) [v108.1] rfl ?_
                show Exists _
                exact ⟨(n0, (IntKind.wrap .u64 (s86 + 1)), v106.2.text, v106.2.at', v106.2.err, (l90 ++ [v108.1])), h, Nat.lt_succ_self _, (rho [0, 1, 2, 3, 4, 5, 12]), ⟨(rV <| rW <| rE rfl <| rW <| rE rfl <| rA <| rE rfl <| rA <| rE rfl <| rX <| rX <| rX <| rX <| rX <| rX <| rX <| rX <| rX <| rX <| rW <| rA <| rE rfl <| rE rfl <| rX <| rX <| rX <| rX <| rW <| rN), (hE rfl <| hC rfl (rE rfl <| rE rfl <| rE rfl <| rL (by first | (simp; done) | (simp [Qp]; done)) rfl <| rN) <| hE rfl <| hE rfl <| hE rfl <| hE rfl <| hO rfl <| hN), rfl, rfl, (roE rfl <| roE rfl <| roE rfl <| roE rfl <| roE rfl <| roE rfl <| roE (Q2 _ _ _) <| roN)⟩⟩
           ·refine cM h Qw rfl p0 fun v119 h => ?_
            apply iU h <;> intro h
            ·obtain rfl := Qb h; exact (Frz.tuple' (.cons q4n p2))
            ·refine cK h Yo (.cons (Frz.agg' (.cons (.p _) (.cons (.p _) (.cons (.p _) (.cons (Q0.frz_own (l := l90) rfl trivial (by first | (simp; done) | (simp [Qp]; done))) .nil))))) .nil) fun v122 h => ?_
             apply iU h <;> intro h
             ·obtain rfl := Qb h; exact (Frz.tuple' (.cons q4n p2))
             ·refine Q7 ?_
              refine dM h Qy rfl p0 fun v125 h => ?_
              obtain rfl := Qb h; exact (Frz.tuple' (.cons (Frz.agg' (.cons (.p _) (.cons (.p _) (.cons (.p _) (.cons (Q0.frz_own (l := l90) rfl trivial (by first | (simp; done) | (simp [Qp]; done))) .nil))))) p2))
       ·refine lpC (τ := Int × (List UInt8) × Int × Int × (List Q0)) (fun ⟨s158, _, _, _, _⟩ => (a4 (a2 (.ptr 1 0 :: .any :: .any :: .ptr 2 0 :: .any :: .ptr 4 0 :: .any :: iI (-1) :: a16 (a16 (a16 (a16 (a16 (a2 (.any :: iW v11.1 :: iW s158 :: a16 (a16 (a2 ([]))))))))))) : List AV)) (fun ⟨_, c159, c160, c161, l162⟩ => (.cells (iI c.Code :: iI c.Kind :: iI c.Width :: .p (.bool c.Sized) :: .p (.bool c.Items) :: []) :: .cells (iI c.Kind :: iW 0 :: iS [] :: .slice 4 5 0 l162.length :: []) :: .cells (iS v9.2.text :: iI v9.2.at' :: iI v9.2.err :: []) :: .cells (iS c159 :: iI c160 :: iI c161 :: []) :: .cells (.ptr 3 0 :: iI (IntKind.wrap .i64 (most - 1)) :: []) :: .cells (Z2 Q0.cells l162) :: [] : List AObj)) (fun n1 ⟨s158, c159, c160, c161, l162⟩ => Zy rv N c most v9 v11 n1 s158 c159 c160 c161 l162) (0, v13.2.text, v13.2.at', v13.2.err, []) h (fun i => i) ⟨(rV <| rW <| rE rfl <| rW <| rE rfl <| rA <| rE rfl <| rA <| rE rfl <| rX <| rX <| rX <| rX <| rX <| rX <| rX <| rX <| rX <| rX <| rW <| rA <| rE rfl <| rE rfl <| rX <| rX <| rX <| rX <| rW <| rN), (hE rfl <| hC rfl (rE rfl <| rE rfl <| rE rfl <| rS <| rN) <| hE rfl <| hE rfl <| hE rfl <| hV lb <| hN), rfl, rfl, (roE rfl <| roE rfl <| roE rfl <| roE rfl <| roE rfl <| roE (Q2 _ _ _) <| roN)⟩ fun n1 ⟨s158, c159, c160, c161, l162⟩ h => ?_
        simp only [Zy] at h
        rw [cX] at h
        apply iU h <;> intro h
        ·refine Ze k75 ?_
         refine ifT (cF (by decide)) ?_
         refine Q7 ?_
         refine dM h Qx rfl p0 fun v164 h => ?_
         refine cD h hw1 p2 fun v166 h => ?_
         apply iU h <;> intro h
         ·refine cM h Qg rfl p1 fun v169 h => ?_
          apply iU h <;> intro h
          ·refine ifT (cF (by decide)) ?_
           obtain rfl := Qb h; exact (Frz.tuple' (.cons q4n p2))
          ·apply iU h <;> intro h
           ·obtain rfl := Qb h; exact (Frz.tuple' (.cons q4n p2))
           ·obtain ⟨hk173, h⟩ := Vq h
            refine V5 (Ys (c := Q0.cells) (e := 4) (fun _ => rfl) (by first | (simp; done) | (simp [Qp]; done)) hk173) ?_
            refine W6 (c := Q0.cells) [v166.1] rfl ?_
            show Exists _
            exact ⟨(n1, (IntKind.wrap .u64 (s158 + 1)), v169.2.text, v169.2.at', v169.2.err, (l162 ++ [v166.1])), h, Nat.lt_succ_self _, (rho [0, 1, 2, 3, 4, 11]), ⟨(rV <| rW <| rE rfl <| rW <| rE rfl <| rA <| rE rfl <| rA <| rE rfl <| rX <| rX <| rX <| rX <| rX <| rX <| rX <| rX <| rX <| rX <| rW <| rA <| rE rfl <| rE rfl <| rX <| rX <| rX <| rX <| rW <| rN), (hE rfl <| hC rfl (rE rfl <| rE rfl <| rE rfl <| rL (by first | (simp; done) | (simp [Qp]; done)) rfl <| rN) <| hE rfl <| hE rfl <| hE rfl <| hO rfl <| hN), rfl, rfl, (roE rfl <| roE rfl <| roE rfl <| roE rfl <| roE rfl <| roE (Q2 _ _ _) <| roN)⟩⟩
         ·apply iU h <;> intro h
          ·refine ifT (cF (by decide)) ?_
           obtain rfl := Qb h; exact (Frz.tuple' (.cons q4n p2))
          ·apply iU h <;> intro h
           ·obtain rfl := Qb h; exact (Frz.tuple' (.cons q4n p2))
           ·obtain ⟨hk176, h⟩ := Vq h
            refine V5 (Ys (c := Q0.cells) (e := 4) (fun _ => rfl) (by first | (simp; done) | (simp [Qp]; done)) hk176) ?_
            refine W6 (c := Q0.cells) [v166.1] rfl ?_
            show Exists _
            exact ⟨(n1, (IntKind.wrap .u64 (s158 + 1)), v164.2.text, v164.2.at', v164.2.err, (l162 ++ [v166.1])), h, Nat.lt_succ_self _, (rho [0, 1, 2, 3, 4, 11]), ⟨(rV <| rW <| rE rfl <| rW <| rE rfl <| rA <| rE rfl <| rA <| rE rfl <| rX <| rX <| rX <| rX <| rX <| rX <| rX <| rX <| rX <| rX <| rW <| rA <| rE rfl <| rE rfl <| rX <| rX <| rX <| rX <| rW <| rN), (hE rfl <| hC rfl (rE rfl <| rE rfl <| rE rfl <| rL (by first | (simp; done) | (simp [Qp]; done)) rfl <| rN) <| hE rfl <| hE rfl <| hE rfl <| hO rfl <| hN), rfl, rfl, (roE rfl <| roE rfl <| roE rfl <| roE rfl <| roE rfl <| roE (Q2 _ _ _) <| roN)⟩⟩
        ·refine cM h Qw rfl p0 fun v177 h => ?_
         apply iU h <;> intro h
         ·obtain rfl := Qb h; exact (Frz.tuple' (.cons q4n p2))
         ·refine cK h Yo (.cons (Frz.agg' (.cons (.p _) (.cons (.p _) (.cons (.p _) (.cons (Q0.frz_own (l := l162) rfl trivial (by first | (simp; done) | (simp [Qp]; done))) .nil))))) .nil) fun v180 h => ?_
          apply iU h <;> intro h
          ·obtain rfl := Qb h; exact (Frz.tuple' (.cons q4n p2))
          ·refine Q7 ?_
           refine dM h Qy rfl p0 fun v183 h => ?_
           obtain rfl := Qb h; exact (Frz.tuple' (.cons (Frz.agg' (.cons (.p _) (.cons (.p _) (.cons (.p _) (.cons (Q0.frz_own (l := l162) rfl trivial (by first | (simp; done) | (simp [Qp]; done))) .nil))))) p2))
     ·apply iU h <;> intro h
      ·refine cM h Qw rfl p0 fun v186 h => ?_
       apply iU h <;> intro h
       ·obtain rfl := Qb h; exact (Frz.tuple' (.cons q4n p2))
       ·refine cM h Z8 rfl p1 fun v189 h => ?_
        refine cP h Xn p1 fun v191 h => ?_
        apply iU h <;> intro h
        ·obtain rfl := Qb h; exact (Frz.tuple' (.cons q4n p2))
        ·apply iU h <;> intro h
         ·obtain rfl := Qb h; exact (Frz.tuple' (.cons q4n p2))
         ·refine lpC (τ := Int × (List UInt8) × Int × Int × (List Q0)) (fun ⟨s252, _, _, _, _⟩ => (a4 (a2 (.ptr 1 0 :: .any :: .any :: .ptr 2 0 :: .any :: .ptr 4 0 :: .any :: iI (IntKind.wrap .i64 v189.1) :: a16 (a16 (a16 (a16 (a16 (a2 (.any :: iW v11.1 :: iW s252 :: a16 (a16 (a2 ([]))))))))))) : List AV)) (fun ⟨_, c253, c254, c255, l256⟩ => (.cells (iI c.Code :: iI c.Kind :: iI c.Width :: .p (.bool c.Sized) :: .p (.bool c.Items) :: []) :: .cells (iI c.Kind :: iW (IntKind.wrap .u64 v191.1.Kind) :: iS [] :: .slice 4 6 0 l256.length :: []) :: .cells (iS v9.2.text :: iI v9.2.at' :: iI v9.2.err :: []) :: .cells (iS c253 :: iI c254 :: iI c255 :: []) :: .cells (.ptr 3 0 :: iI (IntKind.wrap .i64 (most - 1)) :: []) :: .cells (iI v191.1.Code :: iI v191.1.Kind :: iI v191.1.Width :: .p (.bool v191.1.Sized) :: .p (.bool v191.1.Items) :: []) :: .cells (Z2 Q0.cells l256) :: [] : List AObj)) (fun n2 ⟨s252, c253, c254, c255, l256⟩ => Zh rv rz N c most v9 v11 v189 v191 n2 s252 c253 c254 c255 l256) (0, v189.2.text, v189.2.at', v189.2.err, []) h (fun i => i) ⟨(rV <| rW <| rE rfl <| rW <| rE rfl <| rA <| rE rfl <| rA <| rE rfl <| rX <| rX <| rX <| rX <| rX <| rX <| rX <| rX <| rX <| rX <| rW <| rA <| rE rfl <| rE rfl <| rX <| rX <| rX <| rX <| rW <| rN), (hE rfl <| hC rfl (rE rfl <| rE rfl <| rE rfl <| rS <| rN) <| hE rfl <| hE rfl <| hE rfl <| hE rfl <| hV lb <| hN), rfl, rfl, (roE rfl <| roE rfl <| roE rfl <| roE rfl <| roE rfl <| roE rfl <| roE (Q2 _ _ _) <| roN)⟩ fun n2 ⟨s252, c253, c254, c255, l256⟩ h => ?_
          simp only [Zh] at h
          rw [cX] at h
          apply iU h <;> intro h
          ·refine Ze k75 ?_
           apply iU h <;> intro h
           ·refine Q7 ?_
            refine dM h Qx rfl p0 fun v259 h => ?_
            refine cD h hw1 p2 fun v261 h => ?_
            apply iU h <;> intro h
            ·refine cM h Qg rfl p1 fun v264 h => ?_
             apply iU h <;> intro h
             ·refine ifT (cF (by decide)) ?_
              obtain rfl := Qb h; exact (Frz.tuple' (.cons q4n p2))
             ·apply iU h <;> intro h
              ·obtain rfl := Qb h; exact (Frz.tuple' (.cons q4n p2))
              ·obtain ⟨hk268, h⟩ := Vq h
               refine V5 (Ys (c := Q0.cells) (e := 4) (fun _ => rfl) (by first | (simp; done) | (simp [Qp]; done)) hk268) ?_
               refine W6 (c := Q0.cells) [v261.1] rfl ?_
               show Exists _
               exact ⟨(n2, (IntKind.wrap .u64 (s252 + 1)), v264.2.text, v264.2.at', v264.2.err, (l256 ++ [v261.1])), h, Nat.lt_succ_self _, (rho [0, 1, 2, 3, 4, 5, 12]), ⟨(rV <| rW <| rE rfl <| rW <| rE rfl <| rA <| rE rfl <| rA <| rE rfl <| rX <| rX <| rX <| rX <| rX <| rX <| rX <| rX <| rX <| rX <| rW <| rA <| rE rfl <| rE rfl <| rX <| rX <| rX <| rX <| rW <| rN), (hE rfl <| hC rfl (rE rfl <| rE rfl <| rE rfl <| rL (by first | (simp; done) | (simp [Qp]; done)) rfl <| rN) <| hE rfl <| hE rfl <| hE rfl <| hE rfl <| hO rfl <| hN), rfl, rfl, (roE rfl <| roE rfl <| roE rfl <| roE rfl <| roE rfl <| roE rfl <| roE (Q2 _ _ _) <| roN)⟩⟩
            ·apply iU h <;> intro h
             ·refine ifT (cF (by decide)) ?_
              obtain rfl := Qb h; exact (Frz.tuple' (.cons q4n p2))
             ·apply iU h <;> intro h
              ·obtain rfl := Qb h; exact (Frz.tuple' (.cons q4n p2))
              ·obtain ⟨hk271, h⟩ := Vq h
               refine V5 (Ys (c := Q0.cells) (e := 4) (fun _ => rfl) (by first | (simp; done) | (simp [Qp]; done)) hk271) ?_
               refine W6 (c := Q0.cells) [v261.1] rfl ?_
               show Exists _
               exact ⟨(n2, (IntKind.wrap .u64 (s252 + 1)), v259.2.text, v259.2.at', v259.2.err, (l256 ++ [v261.1])), h, Nat.lt_succ_self _, (rho [0, 1, 2, 3, 4, 5, 12]), ⟨(rV <| rW <| rE rfl <| rW <| rE rfl <| rA <| rE rfl <| rA <| rE rfl <| rX <| rX <| rX <| rX <| rX <| rX <| rX <| rX <| rX <| rX <| rW <| rA <| rE rfl <| rE rfl <| rX <| rX <| rX <| rX <| rW <| rN), (hE rfl <| hC rfl (rE rfl <| rE rfl <| rE rfl <| rL (by first | (simp; done) | (simp [Qp]; done)) rfl <| rN) <| hE rfl <| hE rfl <| hE rfl <| hE rfl <| hO rfl <| hN), rfl, rfl, (roE rfl <| roE rfl <| roE rfl <| roE rfl <| roE rfl <| roE rfl <| roE (Q2 _ _ _) <| roN)⟩⟩
           ·refine Q7 ?_
            refine dM h Qx rfl p0 fun v272 h => ?_
            refine cD h hx1 p3 fun v274 h => ?_
            apply iU h <;> intro h
            ·refine cM h Qg rfl p1 fun v277 h => ?_
             apply iU h <;> intro h
             ·refine ifT (cF (by decide)) ?_
              obtain rfl := Qb h; exact (Frz.tuple' (.cons q4n p2))
             ·apply iU h <;> intro h
              ·obtain rfl := Qb h; exact (Frz.tuple' (.cons q4n p2))
              ·obtain ⟨hk281, h⟩ := Vq h
               refine V5 (Ys (c := Q0.cells) (e := 4) (fun _ => rfl) (by first | (simp; done) | (simp [Qp]; done)) hk281) ?_
               refine W6 (c := Q0.cells) [v274.1] rfl ?_
               show Exists _
               exact ⟨(n2, (IntKind.wrap .u64 (s252 + 1)), v277.2.text, v277.2.at', v277.2.err, (l256 ++ [v274.1])), h, Nat.lt_succ_self _, (rho [0, 1, 2, 3, 4, 5, 12]), ⟨(rV <| rW <| rE rfl <| rW <| rE rfl <| rA <| rE rfl <| rA <| rE rfl <| rX <| rX <| rX <| rX <| rX <| rX <| rX <| rX <| rX <| rX <| rW <| rA <| rE rfl <| rE rfl <| rX <| rX <| rX <| rX <| rW <| rN), (hE rfl <| hC rfl (rE rfl <| rE rfl <| rE rfl <| rL (by first | (simp; done) | (simp [Qp]; done)) rfl <| rN) <| hE rfl <| hE rfl <| hE rfl <| hE rfl <| hO rfl <| hN), rfl, rfl, (roE rfl <| roE rfl <| roE rfl <| roE rfl <| roE rfl <| roE rfl <| roE (Q2 _ _ _) <| roN)⟩⟩
            ·apply iU h <;> intro h
             ·refine ifT (cF (by decide)) ?_
              obtain rfl := Qb h; exact (Frz.tuple' (.cons q4n p2))
             ·apply iU h <;> intro h
              ·obtain rfl := Qb h; exact (Frz.tuple' (.cons q4n p2))
              ·obtain ⟨hk284, h⟩ := Vq h
               refine V5 (Ys (c := Q0.cells) (e := 4) (fun _ => rfl) (by first | (simp; done) | (simp [Qp]; done)) hk284) ?_
               refine W6 (c := Q0.cells) [v274.1] rfl ?_
               show Exists _
               exact ⟨(n2, (IntKind.wrap .u64 (s252 + 1)), v272.2.text, v272.2.at', v272.2.err, (l256 ++ [v274.1])), h, Nat.lt_succ_self _, (rho [0, 1, 2, 3, 4, 5, 12]), ⟨(rV <| rW <| rE rfl <| rW <| rE rfl <| rA <| rE rfl <| rA <| rE rfl <| rX <| rX <| rX <| rX <| rX <| rX <| rX <| rX <| rX <| rX <| rW <| rA <| rE rfl <| rE rfl <| rX <| rX <| rX <| rX <| rW <| rN), (hE rfl <| hC rfl (rE rfl <| rE rfl <| rE rfl <| rL (by first | (simp; done) | (simp [Qp]; done)) rfl <| rN) <| hE rfl <| hE rfl <| hE rfl <| hE rfl <| hO rfl <| hN), rfl, rfl, (roE rfl <| roE rfl <| roE rfl <| roE rfl <| roE rfl <| roE rfl <| roE (Q2 _ _ _) <| roN)⟩⟩
          ·refine cM h Qw rfl p0 fun v285 h => ?_
           apply iU h <;> intro h
           ·obtain rfl := Qb h; exact (Frz.tuple' (.cons q4n p2))
           ·refine cK h Yo (.cons (Frz.agg' (.cons (.p _) (.cons (.p _) (.cons (.p _) (.cons (Q0.frz_own (l := l256) rfl trivial (by first | (simp; done) | (simp [Qp]; done))) .nil))))) .nil) fun v288 h => ?_
            apply iU h <;> intro h
            ·obtain rfl := Qb h; exact (Frz.tuple' (.cons q4n p2))
            ·refine Q7 ?_
             refine dM h Qy rfl p0 fun v291 h => ?_
             obtain rfl := Qb h; exact (Frz.tuple' (.cons (Frz.agg' (.cons (.p _) (.cons (.p _) (.cons (.p _) (.cons (Q0.frz_own (l := l256) rfl trivial (by first | (simp; done) | (simp [Qp]; done))) .nil))))) p2))
      ·refine lpC (τ := Int × (List UInt8) × Int × Int × (List Q0)) (fun ⟨s324, _, _, _, _⟩ => (a4 (a2 (.ptr 1 0 :: .any :: .any :: .ptr 2 0 :: .any :: .ptr 4 0 :: .any :: iI (-1) :: a16 (a16 (a16 (a16 (a16 (a2 (.any :: iW v11.1 :: iW s324 :: a16 (a16 (a2 ([]))))))))))) : List AV)) (fun ⟨_, c325, c326, c327, l328⟩ => (.cells (iI c.Code :: iI c.Kind :: iI c.Width :: .p (.bool c.Sized) :: .p (.bool c.Items) :: []) :: .cells (iI c.Kind :: iW 0 :: iS [] :: .slice 4 5 0 l328.length :: []) :: .cells (iS v9.2.text :: iI v9.2.at' :: iI v9.2.err :: []) :: .cells (iS c325 :: iI c326 :: iI c327 :: []) :: .cells (.ptr 3 0 :: iI (IntKind.wrap .i64 (most - 1)) :: []) :: .cells (Z2 Q0.cells l328) :: [] : List AObj)) (fun n3 ⟨s324, c325, c326, c327, l328⟩ => Zz rv N c most v9 v11 n3 s324 c325 c326 c327 l328) (0, v13.2.text, v13.2.at', v13.2.err, []) h (fun i => i) ⟨(rV <| rW <| rE rfl <| rW <| rE rfl <| rA <| rE rfl <| rA <| rE rfl <| rX <| rX <| rX <| rX <| rX <| rX <| rX <| rX <| rX <| rX <| rW <| rA <| rE rfl <| rE rfl <| rX <| rX <| rX <| rX <| rW <| rN), (hE rfl <| hC rfl (rE rfl <| rE rfl <| rE rfl <| rS <| rN) <| hE rfl <| hE rfl <| hE rfl <| hV lb <| hN), rfl, rfl, (roE rfl <| roE rfl <| roE rfl <| roE rfl <| roE rfl <| roE (Q2 _ _ _) <| roN)⟩ fun n3 ⟨s324, c325, c326, c327, l328⟩ h => ?_
       simp only [Zz] at h
       rw [cX] at h
       apply iU h <;> intro h
       ·refine Ze k75 ?_
        refine ifT (cF (by decide)) ?_
        refine Q7 ?_
        refine dM h Qx rfl p0 fun v330 h => ?_
        refine cD h hw1 p2 fun v332 h => ?_
        apply iU h <;> intro h
        ·refine cM h Qg rfl p1 fun v335 h => ?_
         apply iU h <;> intro h
         ·refine ifT (cF (by decide)) ?_
          obtain rfl := Qb h; exact (Frz.tuple' (.cons q4n p2))
         ·apply iU h <;> intro h
          ·obtain rfl := Qb h; exact (Frz.tuple' (.cons q4n p2))
          ·obtain ⟨hk339, h⟩ := Vq h
           refine V5 (Ys (c := Q0.cells) (e := 4) (fun _ => rfl) (by first | (simp; done) | (simp [Qp]; done)) hk339) ?_
           refine W6 (c := Q0.cells) [v332.1] rfl ?_
           show Exists _
           exact ⟨(n3, (IntKind.wrap .u64 (s324 + 1)), v335.2.text, v335.2.at', v335.2.err, (l328 ++ [v332.1])), h, Nat.lt_succ_self _, (rho [0, 1, 2, 3, 4, 11]), ⟨(rV <| rW <| rE rfl <| rW <| rE rfl <| rA <| rE rfl <| rA <| rE rfl <| rX <| rX <| rX <| rX <| rX <| rX <| rX <| rX <| rX <| rX <| rW <| rA <| rE rfl <| rE rfl <| rX <| rX <| rX <| rX <| rW <| rN), (hE rfl <| hC rfl (rE rfl <| rE rfl <| rE rfl <| rL (by first | (simp; done) | (simp [Qp]; done)) rfl <| rN) <| hE rfl <| hE rfl <| hE rfl <| hO rfl <| hN), rfl, rfl, (roE rfl <| roE rfl <| roE rfl <| roE rfl <| roE rfl <| roE (Q2 _ _ _) <| roN)⟩⟩
        ·apply iU h <;> intro h
         ·refine ifT (cF (by decide)) ?_
          obtain rfl := Qb h; exact (Frz.tuple' (.cons q4n p2))
         ·apply iU h <;> intro h
          ·obtain rfl := Qb h; exact (Frz.tuple' (.cons q4n p2))
          ·obtain ⟨hk342, h⟩ := Vq h
           refine V5 (Ys (c := Q0.cells) (e := 4) (fun _ => rfl) (by first | (simp; done) | (simp [Qp]; done)) hk342) ?_
           refine W6 (c := Q0.cells) [v332.1] rfl ?_
           show Exists _
           exact ⟨(n3, (IntKind.wrap .u64 (s324 + 1)), v330.2.text, v330.2.at', v330.2.err, (l328 ++ [v332.1])), h, Nat.lt_succ_self _, (rho [0, 1, 2, 3, 4, 11]), ⟨(rV <| rW <| rE rfl <| rW <| rE rfl <| rA <| rE rfl <| rA <| rE rfl <| rX <| rX <| rX <| rX <| rX <| rX <| rX <| rX <| rX <| rX <| rW <| rA <| rE rfl <| rE rfl <| rX <| rX <| rX <| rX <| rW <| rN), (hE rfl <| hC rfl (rE rfl <| rE rfl <| rE rfl <| rL (by first | (simp; done) | (simp [Qp]; done)) rfl <| rN) <| hE rfl <| hE rfl <| hE rfl <| hO rfl <| hN), rfl, rfl, (roE rfl <| roE rfl <| roE rfl <| roE rfl <| roE rfl <| roE (Q2 _ _ _) <| roN)⟩⟩
       ·refine cM h Qw rfl p0 fun v343 h => ?_
        apply iU h <;> intro h
        ·obtain rfl := Qb h; exact (Frz.tuple' (.cons q4n p2))
        ·refine cK h Yo (.cons (Frz.agg' (.cons (.p _) (.cons (.p _) (.cons (.p _) (.cons (Q0.frz_own (l := l328) rfl trivial (by first | (simp; done) | (simp [Qp]; done))) .nil))))) .nil) fun v346 h => ?_
         apply iU h <;> intro h
         ·obtain rfl := Qb h; exact (Frz.tuple' (.cons q4n p2))
         ·refine Q7 ?_
          refine dM h Qy rfl p0 fun v349 h => ?_
          obtain rfl := Qb h; exact (Frz.tuple' (.cons (Frz.agg' (.cons (.p _) (.cons (.p _) (.cons (.p _) (.cons (Q0.frz_own (l := l328) rfl trivial (by first | (simp; done) | (simp [Qp]; done))) .nil))))) p2))
def Q9 : Nat → ((List UInt8) → Int → Option (Q0 × Int × Int)) × (Int → (List UInt8) → Int → Option (Q0 × Int × Int)) × ((List UInt8) → Int → Option (Q0 × Int × Int)) × (Y7 → (List UInt8) → Int → Option (Q0 × Int × Int))
 | 0 => (fun _ _ => none, fun _ _ _ => none, fun _ _ => none, fun _ _ _ => none)
 | N + 1 => (Wy ((Q9 N).1) ((Q9 N).2.1) ((Q9 N).2.2.1) ((Q9 N).2.2.2) N, Ws ((Q9 N).1) ((Q9 N).2.1) ((Q9 N).2.2.1) ((Q9 N).2.2.2) N, Xc ((Q9 N).1) ((Q9 N).2.1) ((Q9 N).2.2.1) ((Q9 N).2.2.2) N, Wc ((Q9 N).1) ((Q9 N).2.1) ((Q9 N).2.2.1) ((Q9 N).2.2.2) N)
def Uw (N : Nat) : (List UInt8) → Int → Option (Q0 × Int × Int) := (Q9 N).1
theorem G0 : ∀ N, (∀ {s_0 : List UInt8} {most : Int} {r : Q0 × Int × Int}, (Q9 N).1 s_0 most = some r → Yr Tryd.prog G1 11 [.str s_0, .int .i64 most] (.tuple [.agg (Q0.cells r.1), .int .i64 r.2.1, .int .i64 r.2.2])) ∧ (∀ {code : Int} {s_1 : List UInt8} {most : Int} {r : Q0 × Int × Int}, (Q9 N).2.1 code s_1 most = some r → Yr Tryd.prog G1 35 [.int .i64 code, .str s_1, .int .i64 most] (.tuple [.agg (Q0.cells r.1), .int .i64 r.2.1, .int .i64 r.2.2])) ∧ (∀ {s_0 : List UInt8} {most : Int} {r : Q0 × Int × Int}, (Q9 N).2.2.1 s_0 most = some r → Yr Tryd.prog G1 48 [.str s_0, .int .i64 most] (.tuple [.agg (Q0.cells r.1), .int .i64 r.2.1, .int .i64 r.2.2])) ∧ (∀ {c : Y7} {s_1 : List UInt8} {most : Int} {r : Q0 × Int × Int}, (Q9 N).2.2.2 c s_1 most = some r → Yr Tryd.prog G1 49 [.agg (Y7.cells c), .str s_1, .int .i64 most] (.tuple [.agg (Q0.cells r.1), .int .i64 r.2.1, .int .i64 r.2.2])) := by
 intro N
 induction N with
 | zero => exact ⟨(fun h => by simp [Q9] at h), (fun h => by simp [Q9] at h), (fun h => by simp [Q9] at h), (fun h => by simp [Q9] at h)⟩
 | succ N ih => exact ⟨(fun h => Jx (N := N) (fun h => ih.1 h) (fun h => ih.2.1 h) (fun h => ih.2.2.1 h) (fun h => ih.2.2.2 h) h), (fun h => G8 (N := N) (fun h => ih.1 h) (fun h => ih.2.1 h) (fun h => ih.2.2.1 h) (fun h => ih.2.2.2 h) h), (fun h => U1 (N := N) (fun h => ih.1 h) (fun h => ih.2.1 h) (fun h => ih.2.2.1 h) (fun h => ih.2.2.2 h) h), (fun h => Jn (N := N) (fun h => ih.1 h) (fun h => ih.2.1 h) (fun h => ih.2.2.1 h) (fun h => ih.2.2.2 h) h)⟩
theorem Ge {N : Nat} {s_0 : List UInt8} {most : Int} {r : Q0 × Int × Int} (h : Uw N s_0 most = some r) : Yr Tryd.prog G1 11 [.str s_0, .int .i64 most] (.tuple [.agg (Q0.cells r.1), .int .i64 r.2.1, .int .i64 r.2.2]) := (G0 N).1 h
end
end
end Go.Av
