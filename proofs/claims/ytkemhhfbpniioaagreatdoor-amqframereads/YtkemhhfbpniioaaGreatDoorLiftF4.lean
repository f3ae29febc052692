/- The law. Part of a proof of a given statement: for every input the law returns true and the arguments read as before; no condition beyond the given row. -/
import Derived.Test.YtkemhhfbpniioaaGreatDoorLiftF3
namespace Go.Av
noncomputable section
open Go.Proofs
set_option maxRecDepth 100000
set_option maxHeartbeats 4000000
attribute [local irreducible] V9 X0 Q56 Q6j Q9 Q7t Q7s
section
def Uf (rv : (List UInt8) → Int → Option (Q0 × Int × Int)) (rz : Int → (List UInt8) → Int → Option (Q0 × Int × Int)) (rz1 : (List UInt8) → Int → Option (Q0 × Int × Int)) (ry1 : X5 → (List UInt8) → Int → Option (Q0 × Int × Int)) (N : Nat) (s_0 : List UInt8) (most : Int) : Option (Q0 × Int × Int) :=
 (Yi N most).bind fun v1 =>
 cond (!v1)
 (some ((⟨0, 0, [], []⟩ : Q0), 0, 2))
 (cond (Q7t .eql s_0 [])
 (some ((⟨0, 0, [], []⟩ : Q0), 0, 3))
 ((idx s_0 0).bind fun b5 =>
 cond (Nat.ble 1 s_0.length && Nat.ble s_0.length s_0.length) ((rz (IntKind.wrap .i64 (b5.toNat : Int)) ((s_0.take s_0.length).drop 1) most).bind fun v8 =>
 cond (Q9 .neq v8.2.2 0)
 (some ((⟨0, 0, [], []⟩ : Q0), 0, v8.2.2))
 (some (v8.1, (IntKind.wrap .i64 (v8.2.1 + 1)), 0))) none))
theorem Q5s {rv : (List UInt8) → Int → Option (Q0 × Int × Int)} {rz : Int → (List UInt8) → Int → Option (Q0 × Int × Int)} {rz1 : (List UInt8) → Int → Option (Q0 × Int × Int)} {ry1 : X5 → (List UInt8) → Int → Option (Q0 × Int × Int)} (hv1 : ∀ {s_0} {most} {r}, rv s_0 most = some r → Zx Tryz.prog G1 73 [.str s_0, .int .i64 most] (.tuple [.agg (Q0.cells r.1), .int .i64 r.2.1, .int .i64 r.2.2])) (hx1 : ∀ {code} {s_1} {most} {r}, rz code s_1 most = some r → Zx Tryz.prog G1 106 [.int .i64 code, .str s_1, .int .i64 most] (.tuple [.agg (Q0.cells r.1), .int .i64 r.2.1, .int .i64 r.2.2])) (hy2 : ∀ {s_0} {most} {r}, rz1 s_0 most = some r → Zx Tryz.prog G1 125 [.str s_0, .int .i64 most] (.tuple [.agg (Q0.cells r.1), .int .i64 r.2.1, .int .i64 r.2.2])) (hx2 : ∀ {c} {s_1} {most} {r}, ry1 c s_1 most = some r → Zx Tryz.prog G1 126 [.agg (X5.cells c), .str s_1, .int .i64 most] (.tuple [.agg (Q0.cells r.1), .int .i64 r.2.1, .int .i64 r.2.2])) {N} {s_0} {most} {r} (h : Uf rv rz rz1 ry1 N s_0 most = some r) : Zx Tryz.prog G1 73 [.str s_0, .int .i64 most] (.tuple [.agg (Q0.cells r.1), .int .i64 r.2.1, .int .i64 r.2.2]) := by
 refine Q6 k73 ?_
 unfold Uf at h
 refine cP h Vr p1 fun v1 h => ?_
 apply iU h <;> intro h
 ·obtain rfl := Qb h; exact (Frz.tuple' (.cons q4n p2))
 ·apply iU h <;> intro h
  ·obtain rfl := Qb h; exact (Frz.tuple' (.cons q4n p2))
  ·refine Qh ?_
   refine xB h fun b5 h => ?_
   refine kU h fun h => ?_
   refine cD h hx1 p3 fun v8 h => ?_
   apply iU h <;> intro h
   ·obtain rfl := Qb h; exact (Frz.tuple' (.cons q4n p2))
   ·obtain rfl := Qb h; exact (Frz.tuple' (.cons q4 p2))
def Wq (rv : (List UInt8) → Int → Option (Q0 × Int × Int)) (rz : Int → (List UInt8) → Int → Option (Q0 × Int × Int)) (rz1 : (List UInt8) → Int → Option (Q0 × Int × Int)) (ry1 : X5 → (List UInt8) → Int → Option (Q0 × Int × Int)) (N : Nat) (code : Int) (s_1 : List UInt8) (most : Int) : Option (Q0 × Int × Int) :=
 (Yi N most).bind fun v1 =>
 cond (!v1)
 (some ((⟨0, 0, [], []⟩ : Q0), 0, 2))
 ((Qy N code).bind fun v4 =>
 cond (!v4.2)
 (some ((⟨0, 0, [], []⟩ : Q0), 0, 8))
 (cond (!v4.1.Items)
 ((Jg N code s_1).bind fun v8 =>
 some (v8.1, v8.2.1, v8.2.2))
 (cond (Q9 .eql most 0)
 (some ((⟨0, 0, [], []⟩ : Q0), 0, 14))
 (cond (Q9 .eql v4.1.Kind 25)
 ((rz1 s_1 most).bind fun v12 =>
 some (v12.1, v12.2.1, v12.2.2))
 (cond (!v4.1.Sized)
 (some ((⟨v4.1.Kind, 0, [], []⟩ : Q0), 0, 0))
 ((ry1 v4.1 s_1 most).bind fun v15 =>
 some (v15.1, v15.2.1, v15.2.2)))))))
theorem Q53 {rv : (List UInt8) → Int → Option (Q0 × Int × Int)} {rz : Int → (List UInt8) → Int → Option (Q0 × Int × Int)} {rz1 : (List UInt8) → Int → Option (Q0 × Int × Int)} {ry1 : X5 → (List UInt8) → Int → Option (Q0 × Int × Int)} (hv1 : ∀ {s_0} {most} {r}, rv s_0 most = some r → Zx Tryz.prog G1 73 [.str s_0, .int .i64 most] (.tuple [.agg (Q0.cells r.1), .int .i64 r.2.1, .int .i64 r.2.2])) (hx1 : ∀ {code} {s_1} {most} {r}, rz code s_1 most = some r → Zx Tryz.prog G1 106 [.int .i64 code, .str s_1, .int .i64 most] (.tuple [.agg (Q0.cells r.1), .int .i64 r.2.1, .int .i64 r.2.2])) (hy2 : ∀ {s_0} {most} {r}, rz1 s_0 most = some r → Zx Tryz.prog G1 125 [.str s_0, .int .i64 most] (.tuple [.agg (Q0.cells r.1), .int .i64 r.2.1, .int .i64 r.2.2])) (hx2 : ∀ {c} {s_1} {most} {r}, ry1 c s_1 most = some r → Zx Tryz.prog G1 126 [.agg (X5.cells c), .str s_1, .int .i64 most] (.tuple [.agg (Q0.cells r.1), .int .i64 r.2.1, .int .i64 r.2.2])) {N} {code} {s_1} {most} {r} (h : Wq rv rz rz1 ry1 N code s_1 most = some r) : Zx Tryz.prog G1 106 [.int .i64 code, .str s_1, .int .i64 most] (.tuple [.agg (Q0.cells r.1), .int .i64 r.2.1, .int .i64 r.2.2]) := by
 refine Q6 Qxx ?_
 unfold Wq at h
 refine cP h Vr p1 fun v1 h => ?_
 apply iU h <;> intro h
 ·obtain rfl := Qb h; exact (Frz.tuple' (.cons q4n p2))
 ·refine cP h Xb p1 fun v4 h => ?_
  apply iU h <;> intro h
  ·obtain rfl := Qb h; exact (Frz.tuple' (.cons q4n p2))
  ·apply iU h <;> intro h
   ·refine cP h Q7n p2 fun v8 h => ?_
    obtain rfl := Qb h; exact (Frz.tuple' (.cons q4 p2))
   ·apply iU h <;> intro h
    ·obtain rfl := Qb h; exact (Frz.tuple' (.cons q4n p2))
    ·apply iU h <;> intro h
     ·refine cP h hy2 p2 fun v12 h => ?_
      obtain rfl := Qb h; exact (Frz.tuple' (.cons q4 p2))
     ·apply iU h <;> intro h
      ·obtain rfl := Qb h; exact (Frz.tuple' (.cons q4n p2))
      ·refine cP h hx2 (.cons (Frz.agg' p5) p2) fun v15 h => ?_
       obtain rfl := Qb h; exact (Frz.tuple' (.cons q4 p2))
def Zr (rv : (List UInt8) → Int → Option (Q0 × Int × Int)) (N : Nat) (most : Int) : Nat → Int → (List UInt8) → Int → Int → (List Q0) → Option (Q0 × Int × Int)
 | 0, _, _, _, _, _ => none
 | n + 1, s27, c28, c29, c30, l31 =>
  cond (Q9 .lss s27 2)
  ((Qs N (⟨c28, c29, c30⟩ : Q3)).bind fun v33 =>
  (rv v33.1 (IntKind.wrap .i64 (most - 1))).bind fun v35 =>
  cond (Q9 .eql v35.2.2 0)
  ((Qg N v33.2 v35.2.1).bind fun v38 =>
  cond (Q9 .neq v35.2.2 0)
  (some ((⟨0, 0, [], []⟩ : Q0), 0, v35.2.2))
  (cond (Nat.ble ((l31.length + 1 + 4096) * 56) 17592186044416) (Zr rv N most n (IntKind.wrap .i64 (s27 + 1)) v38.2.text v38.2.at' v38.2.err (l31 ++ [v35.1])) none))
  (cond (Q9 .neq v35.2.2 0)
  (some ((⟨0, 0, [], []⟩ : Q0), 0, v35.2.2))
  (cond (Nat.ble ((l31.length + 1 + 4096) * 56) 17592186044416) (Zr rv N most n (IntKind.wrap .i64 (s27 + 1)) v33.2.text v33.2.at' v33.2.err (l31 ++ [v35.1])) none)))
  ((Qi N (⟨c28, c29, c30⟩ : Q3)).bind fun v44 =>
  some ((⟨25, 0, [], l31⟩ : Q0), v44.1, 0))
def Wf (rv : (List UInt8) → Int → Option (Q0 × Int × Int)) (rz : Int → (List UInt8) → Int → Option (Q0 × Int × Int)) (rz1 : (List UInt8) → Int → Option (Q0 × Int × Int)) (ry1 : X5 → (List UInt8) → Int → Option (Q0 × Int × Int)) (N : Nat) (s_0 : List UInt8) (most : Int) : Option (Q0 × Int × Int) :=
 Zr rv N most N 0 s_0 0 0 []
theorem Q1x {rv : (List UInt8) → Int → Option (Q0 × Int × Int)} {rz : Int → (List UInt8) → Int → Option (Q0 × Int × Int)} {rz1 : (List UInt8) → Int → Option (Q0 × Int × Int)} {ry1 : X5 → (List UInt8) → Int → Option (Q0 × Int × Int)} (hv1 : ∀ {s_0} {most} {r}, rv s_0 most = some r → Zx Tryz.prog G1 73 [.str s_0, .int .i64 most] (.tuple [.agg (Q0.cells r.1), .int .i64 r.2.1, .int .i64 r.2.2])) (hx1 : ∀ {code} {s_1} {most} {r}, rz code s_1 most = some r → Zx Tryz.prog G1 106 [.int .i64 code, .str s_1, .int .i64 most] (.tuple [.agg (Q0.cells r.1), .int .i64 r.2.1, .int .i64 r.2.2])) (hy2 : ∀ {s_0} {most} {r}, rz1 s_0 most = some r → Zx Tryz.prog G1 125 [.str s_0, .int .i64 most] (.tuple [.agg (Q0.cells r.1), .int .i64 r.2.1, .int .i64 r.2.2])) (hx2 : ∀ {c} {s_1} {most} {r}, ry1 c s_1 most = some r → Zx Tryz.prog G1 126 [.agg (X5.cells c), .str s_1, .int .i64 most] (.tuple [.agg (Q0.cells r.1), .int .i64 r.2.1, .int .i64 r.2.2])) {N} {s_0} {most} {r} (h : Wf rv rz rz1 ry1 N s_0 most = some r) : Zx Tryz.prog G1 125 [.str s_0, .int .i64 most] (.tuple [.agg (Q0.cells r.1), .int .i64 r.2.1, .int .i64 r.2.2]) := by
 refine Q6 Qw9 ?_
 unfold Wf at h
 refine Vo Qtm ?_
 refine lpC (τ := Int × (List UInt8) × Int × Int × (List Q0)) (fun ⟨s27, _, _, _, _⟩ => (a4 (.ptr 0 0 :: .any :: .any :: .ptr 2 0 :: a8 (iI s27 :: a16 (a4 (.any :: [])))) : List AV)) (fun ⟨_, c28, c29, c30, l31⟩ => (.cells (iI 25 :: iW 0 :: iS [] :: .slice 4 3 0 l31.length :: []) :: .cells (iS c28 :: iI c29 :: iI c30 :: []) :: .cells (.ptr 1 0 :: iI (IntKind.wrap .i64 (most - 1)) :: []) :: .cells (Yk Q0.cells l31) :: [] : List AObj)) (fun n0 ⟨s27, c28, c29, c30, l31⟩ => Zr rv N most n0 s27 c28 c29 c30 l31) (0, s_0, 0, 0, []) h (fun i => i) ⟨(rV <| rE rfl <| rW <| rE rfl <| rX <| rE rfl <| rX <| rX <| rV <| rA <| rN), (hC rfl (rE rfl <| rE rfl <| rE rfl <| rS <| rN) <| hE rfl <| hE rfl <| hV lb <| hN), rfl, rfl, (roE rfl <| roE rfl <| roE rfl <| roE (Q7 _ _ _) <| roN)⟩ fun n0 ⟨s27, c28, c29, c30, l31⟩ h => ?_
 simp only [Zr] at h
 apply iU h <;> intro h
 ·refine Vo Qsd ?_
  refine ifT (by unfold Q9; decide) ?_
  refine Qh ?_
  refine dM h Zi rfl p0 fun v33 h => ?_
  refine cD h hv1 p2 fun v35 h => ?_
  apply iU h <;> intro h
  ·refine cM h Qq rfl p1 fun v38 h => ?_
   apply iU h <;> intro h
   ·obtain rfl := Qb h; exact (Frz.tuple' (.cons q4n p2))
   ·obtain ⟨hk41, h⟩ := Q31 h
    refine Q26 (Xo (c := Q0.cells) (e := 4) (fun _ => rfl) (by simp) hk41) ?_
    refine Vh (c := Q0.cells) [v35.1] rfl ?_
    show Exists _
    exact ⟨(n0, (IntKind.wrap .i64 (s27 + 1)), v38.2.text, v38.2.at', v38.2.err, (l31 ++ [v35.1])), h, Nat.lt_succ_self _, (rho [0, 1, 2, 9]), ⟨(rV <| rE rfl <| rW <| rE rfl <| rX <| rE rfl <| rX <| rX <| rV <| rA <| rN), (hC rfl (rE rfl <| rE rfl <| rE rfl <| rL (by simp) rfl <| rN) <| hE rfl <| hE rfl <| hO rfl <| hN), rfl, rfl, (roE rfl <| roE rfl <| roE rfl <| roE (Q7 _ _ _) <| roN)⟩⟩
  ·apply iU h <;> intro h
   ·obtain rfl := Qb h; exact (Frz.tuple' (.cons q4n p2))
   ·obtain ⟨hk43, h⟩ := Q31 h
    refine Q26 (Xo (c := Q0.cells) (e := 4) (fun _ => rfl) (by simp) hk43) ?_
    refine Vh (c := Q0.cells) [v35.1] rfl ?_
    show Exists _
    exact ⟨(n0, (IntKind.wrap .i64 (s27 + 1)), v33.2.text, v33.2.at', v33.2.err, (l31 ++ [v35.1])), h, Nat.lt_succ_self _, (rho [0, 1, 2, 9]), ⟨(rV <| rE rfl <| rW <| rE rfl <| rX <| rE rfl <| rX <| rX <| rV <| rA <| rN), (hC rfl (rE rfl <| rE rfl <| rE rfl <| rL (by simp) rfl <| rN) <| hE rfl <| hE rfl <| hO rfl <| hN), rfl, rfl, (roE rfl <| roE rfl <| roE rfl <| roE (Q7 _ _ _) <| roN)⟩⟩
 ·refine Qh ?_
  refine dM h Zm rfl p0 fun v44 h => ?_
  obtain rfl := Qb h; exact (Frz.tuple' (.cons (Frz.agg' (.cons (.p _) (.cons (.p _) (.cons (.p _) (.cons (Q0.frz_own (l := l31) rfl trivial (by simp)) .nil))))) p2))
def Yu (rv : (List UInt8) → Int → Option (Q0 × Int × Int)) (rz : Int → (List UInt8) → Int → Option (Q0 × Int × Int)) (N : Nat) (c : X5) (most : Int) (v9 : (List UInt8) × Q3) (v11 : (Int) × Q3) (v23 : (Int) × Q3) (v25 : X5 × Bool) : Nat → Int → (List UInt8) → Int → Int → (List Q0) → Option (Q0 × Int × Int)
 | 0, _, _, _, _, _ => none
 | n + 1, s86, c87, c88, c89, l90 =>
  cond (Q9 .lss s86 v11.1)
  (cond (Q9 .lss (IntKind.wrap .i64 v23.1) 0)
  ((Qs N (⟨c87, c88, c89⟩ : Q3)).bind fun v93 =>
  (rv v93.1 (IntKind.wrap .i64 (most - 1))).bind fun v95 =>
  cond (Q9 .eql v95.2.2 0)
  ((Qg N v93.2 v95.2.1).bind fun v98 =>
  cond (Q9 .eql v95.2.2 3)
  (some ((⟨0, 0, [], []⟩ : Q0), 0, 5))
  (cond (Q9 .neq v95.2.2 0)
  (some ((⟨0, 0, [], []⟩ : Q0), 0, v95.2.2))
  (cond (Nat.ble ((l90.length + 1 + 4096) * 56) 17592186044416) (Yu rv rz N c most v9 v11 v23 v25 n (IntKind.wrap .u64 (s86 + 1)) v98.2.text v98.2.at' v98.2.err (l90 ++ [v95.1])) none)))
  (cond (Q9 .eql v95.2.2 3)
  (some ((⟨0, 0, [], []⟩ : Q0), 0, 5))
  (cond (Q9 .neq v95.2.2 0)
  (some ((⟨0, 0, [], []⟩ : Q0), 0, v95.2.2))
  (cond (Nat.ble ((l90.length + 1 + 4096) * 56) 17592186044416) (Yu rv rz N c most v9 v11 v23 v25 n (IntKind.wrap .u64 (s86 + 1)) v93.2.text v93.2.at' v93.2.err (l90 ++ [v95.1])) none))))
  ((Qs N (⟨c87, c88, c89⟩ : Q3)).bind fun v106 =>
  (rz (IntKind.wrap .i64 v23.1) v106.1 (IntKind.wrap .i64 (most - 1))).bind fun v108 =>
  cond (Q9 .eql v108.2.2 0)
  ((Qg N v106.2 v108.2.1).bind fun v111 =>
  cond (Q9 .eql v108.2.2 3)
  (some ((⟨0, 0, [], []⟩ : Q0), 0, 5))
  (cond (Q9 .neq v108.2.2 0)
  (some ((⟨0, 0, [], []⟩ : Q0), 0, v108.2.2))
  (cond (Nat.ble ((l90.length + 1 + 4096) * 56) 17592186044416) (Yu rv rz N c most v9 v11 v23 v25 n (IntKind.wrap .u64 (s86 + 1)) v111.2.text v111.2.at' v111.2.err (l90 ++ [v108.1])) none)))
  (cond (Q9 .eql v108.2.2 3)
  (some ((⟨0, 0, [], []⟩ : Q0), 0, 5))
  (cond (Q9 .neq v108.2.2 0)
  (some ((⟨0, 0, [], []⟩ : Q0), 0, v108.2.2))
  (cond (Nat.ble ((l90.length + 1 + 4096) * 56) 17592186044416) (Yu rv rz N c most v9 v11 v23 v25 n (IntKind.wrap .u64 (s86 + 1)) v106.2.text v106.2.at' v106.2.err (l90 ++ [v108.1])) none)))))
  ((Qr N (⟨c87, c88, c89⟩ : Q3)).bind fun v119 =>
  cond (Q9 .neq v119.1 0)
  (some ((⟨0, 0, [], []⟩ : Q0), 0, 5))
  ((X8 N (⟨c.Kind, (IntKind.wrap .u64 v25.1.Kind), [], l90⟩ : Q0)).bind fun v122 =>
  cond (Q9 .neq v122 0)
  (some ((⟨0, 0, [], []⟩ : Q0), 0, v122))
  ((Qi N v9.2).bind fun v125 =>
  some ((⟨c.Kind, (IntKind.wrap .u64 v25.1.Kind), [], l90⟩ : Q0), v125.1, 0))))
def Yx (rv : (List UInt8) → Int → Option (Q0 × Int × Int)) (N : Nat) (c : X5) (most : Int) (v9 : (List UInt8) × Q3) (v11 : (Int) × Q3) : Nat → Int → (List UInt8) → Int → Int → (List Q0) → Option (Q0 × Int × Int)
 | 0, _, _, _, _, _ => none
 | n + 1, s158, Qn7, Qo0, Qnh, l162 =>
  cond (Q9 .lss s158 v11.1)
  ((Qs N (⟨Qn7, Qo0, Qnh⟩ : Q3)).bind fun v164 =>
  (rv v164.1 (IntKind.wrap .i64 (most - 1))).bind fun v166 =>
  cond (Q9 .eql v166.2.2 0)
  ((Qg N v164.2 v166.2.1).bind fun v169 =>
  cond (Q9 .eql v166.2.2 3)
  (some ((⟨0, 0, [], []⟩ : Q0), 0, 5))
  (cond (Q9 .neq v166.2.2 0)
  (some ((⟨0, 0, [], []⟩ : Q0), 0, v166.2.2))
  (cond (Nat.ble ((l162.length + 1 + 4096) * 56) 17592186044416) (Yx rv N c most v9 v11 n (IntKind.wrap .u64 (s158 + 1)) v169.2.text v169.2.at' v169.2.err (l162 ++ [v166.1])) none)))
  (cond (Q9 .eql v166.2.2 3)
  (some ((⟨0, 0, [], []⟩ : Q0), 0, 5))
  (cond (Q9 .neq v166.2.2 0)
  (some ((⟨0, 0, [], []⟩ : Q0), 0, v166.2.2))
  (cond (Nat.ble ((l162.length + 1 + 4096) * 56) 17592186044416) (Yx rv N c most v9 v11 n (IntKind.wrap .u64 (s158 + 1)) v164.2.text v164.2.at' v164.2.err (l162 ++ [v166.1])) none))))
  ((Qr N (⟨Qn7, Qo0, Qnh⟩ : Q3)).bind fun v177 =>
  cond (Q9 .neq v177.1 0)
  (some ((⟨0, 0, [], []⟩ : Q0), 0, 5))
  ((X8 N (⟨c.Kind, 0, [], l162⟩ : Q0)).bind fun v180 =>
  cond (Q9 .neq v180 0)
  (some ((⟨0, 0, [], []⟩ : Q0), 0, v180))
  ((Qi N v9.2).bind fun v183 =>
  some ((⟨c.Kind, 0, [], l162⟩ : Q0), v183.1, 0))))
def Zg (rv : (List UInt8) → Int → Option (Q0 × Int × Int)) (rz : Int → (List UInt8) → Int → Option (Q0 × Int × Int)) (N : Nat) (c : X5) (most : Int) (v9 : (List UInt8) × Q3) (v11 : (Int) × Q3) (v189 : (Int) × Q3) (v191 : X5 × Bool) : Nat → Int → (List UInt8) → Int → Int → (List Q0) → Option (Q0 × Int × Int)
 | 0, _, _, _, _, _ => none
 | n + 1, s252, c253, c254, c255, l256 =>
  cond (Q9 .lss s252 v11.1)
  (cond (Q9 .lss (IntKind.wrap .i64 v189.1) 0)
  ((Qs N (⟨c253, c254, c255⟩ : Q3)).bind fun v259 =>
  (rv v259.1 (IntKind.wrap .i64 (most - 1))).bind fun v261 =>
  cond (Q9 .eql v261.2.2 0)
  ((Qg N v259.2 v261.2.1).bind fun v264 =>
  cond (Q9 .eql v261.2.2 3)
  (some ((⟨0, 0, [], []⟩ : Q0), 0, 5))
  (cond (Q9 .neq v261.2.2 0)
  (some ((⟨0, 0, [], []⟩ : Q0), 0, v261.2.2))
  (cond (Nat.ble ((l256.length + 1 + 4096) * 56) 17592186044416) (Zg rv rz N c most v9 v11 v189 v191 n (IntKind.wrap .u64 (s252 + 1)) v264.2.text v264.2.at' v264.2.err (l256 ++ [v261.1])) none)))
  (cond (Q9 .eql v261.2.2 3)
  (some ((⟨0, 0, [], []⟩ : Q0), 0, 5))
  (cond (Q9 .neq v261.2.2 0)
  (some ((⟨0, 0, [], []⟩ : Q0), 0, v261.2.2))
  (cond (Nat.ble ((l256.length + 1 + 4096) * 56) 17592186044416) (Zg rv rz N c most v9 v11 v189 v191 n (IntKind.wrap .u64 (s252 + 1)) v259.2.text v259.2.at' v259.2.err (l256 ++ [v261.1])) none))))
  ((Qs N (⟨c253, c254, c255⟩ : Q3)).bind fun v272 =>
  (rz (IntKind.wrap .i64 v189.1) v272.1 (IntKind.wrap .i64 (most - 1))).bind fun v274 =>
  cond (Q9 .eql v274.2.2 0)
  ((Qg N v272.2 v274.2.1).bind fun v277 =>
  cond (Q9 .eql v274.2.2 3)
  (some ((⟨0, 0, [], []⟩ : Q0), 0, 5))
  (cond (Q9 .neq v274.2.2 0)
  (some ((⟨0, 0, [], []⟩ : Q0), 0, v274.2.2))
  (cond (Nat.ble ((l256.length + 1 + 4096) * 56) 17592186044416) (Zg rv rz N c most v9 v11 v189 v191 n (IntKind.wrap .u64 (s252 + 1)) v277.2.text v277.2.at' v277.2.err (l256 ++ [v274.1])) none)))
  (cond (Q9 .eql v274.2.2 3)
  (some ((⟨0, 0, [], []⟩ : Q0), 0, 5))
  (cond (Q9 .neq v274.2.2 0)
  (some ((⟨0, 0, [], []⟩ : Q0), 0, v274.2.2))
  (cond (Nat.ble ((l256.length + 1 + 4096) * 56) 17592186044416) (Zg rv rz N c most v9 v11 v189 v191 n (IntKind.wrap .u64 (s252 + 1)) v272.2.text v272.2.at' v272.2.err (l256 ++ [v274.1])) none)))))
  ((Qr N (⟨c253, c254, c255⟩ : Q3)).bind fun v285 =>
  cond (Q9 .neq v285.1 0)
  (some ((⟨0, 0, [], []⟩ : Q0), 0, 5))
  ((X8 N (⟨c.Kind, (IntKind.wrap .u64 v191.1.Kind), [], l256⟩ : Q0)).bind fun v288 =>
  cond (Q9 .neq v288 0)
  (some ((⟨0, 0, [], []⟩ : Q0), 0, v288))
  ((Qi N v9.2).bind fun v291 =>
  some ((⟨c.Kind, (IntKind.wrap .u64 v191.1.Kind), [], l256⟩ : Q0), v291.1, 0))))
def Yt (rv : (List UInt8) → Int → Option (Q0 × Int × Int)) (N : Nat) (c : X5) (most : Int) (v9 : (List UInt8) × Q3) (v11 : (Int) × Q3) : Nat → Int → (List UInt8) → Int → Int → (List Q0) → Option (Q0 × Int × Int)
 | 0, _, _, _, _, _ => none
 | n + 1, s324, c325, c326, c327, l328 =>
  cond (Q9 .lss s324 v11.1)
  ((Qs N (⟨c325, c326, c327⟩ : Q3)).bind fun v330 =>
  (rv v330.1 (IntKind.wrap .i64 (most - 1))).bind fun v332 =>
  cond (Q9 .eql v332.2.2 0)
  ((Qg N v330.2 v332.2.1).bind fun v335 =>
  cond (Q9 .eql v332.2.2 3)
  (some ((⟨0, 0, [], []⟩ : Q0), 0, 5))
  (cond (Q9 .neq v332.2.2 0)
  (some ((⟨0, 0, [], []⟩ : Q0), 0, v332.2.2))
  (cond (Nat.ble ((l328.length + 1 + 4096) * 56) 17592186044416) (Yt rv N c most v9 v11 n (IntKind.wrap .u64 (s324 + 1)) v335.2.text v335.2.at' v335.2.err (l328 ++ [v332.1])) none)))
  (cond (Q9 .eql v332.2.2 3)
  (some ((⟨0, 0, [], []⟩ : Q0), 0, 5))
  (cond (Q9 .neq v332.2.2 0)
  (some ((⟨0, 0, [], []⟩ : Q0), 0, v332.2.2))
  (cond (Nat.ble ((l328.length + 1 + 4096) * 56) 17592186044416) (Yt rv N c most v9 v11 n (IntKind.wrap .u64 (s324 + 1)) v330.2.text v330.2.at' v330.2.err (l328 ++ [v332.1])) none))))
  ((Qr N (⟨c325, c326, c327⟩ : Q3)).bind fun v343 =>
  cond (Q9 .neq v343.1 0)
  (some ((⟨0, 0, [], []⟩ : Q0), 0, 5))
  ((X8 N (⟨c.Kind, 0, [], l328⟩ : Q0)).bind fun v346 =>
  cond (Q9 .neq v346 0)
  (some ((⟨0, 0, [], []⟩ : Q0), 0, v346))
  ((Qi N v9.2).bind fun v349 =>
  some ((⟨c.Kind, 0, [], l328⟩ : Q0), v349.1, 0))))
def Wy (rv : (List UInt8) → Int → Option (Q0 × Int × Int)) (rz : Int → (List UInt8) → Int → Option (Q0 × Int × Int)) (rz1 : (List UInt8) → Int → Option (Q0 × Int × Int)) (ry1 : X5 → (List UInt8) → Int → Option (Q0 × Int × Int)) (N : Nat) (c : X5) (s_1 : List UInt8) (most : Int) : Option (Q0 × Int × Int) :=
 (Qm N (⟨s_1, 0, 0⟩ : Q3) c.Width).bind fun v1 =>
 (Qe N v1.2).bind fun v3 =>
 cond (Q9 .neq v3.1 0)
 (some ((⟨0, 0, [], []⟩ : Q0), 0, 3))
 ((Qr N v3.2).bind fun v6 =>
 cond (Q9 .gtr v1.1 (IntKind.wrap .u64 v6.1))
 (some ((⟨0, 0, [], []⟩ : Q0), 0, 3))
 ((Qg N v6.2 (IntKind.wrap .i64 v1.1)).bind fun v9 =>
 (Qm N (⟨v9.1, 0, 0⟩ : Q3) c.Width).bind fun v11 =>
 (Qe N v11.2).bind fun v13 =>
 cond (Q9 .neq v13.1 0)
 (some ((⟨0, 0, [], []⟩ : Q0), 0, 5))
 (cond (Q9 .gtr v11.1 1000)
 (some ((⟨0, 0, [], []⟩ : Q0), 0, 4))
 (cond (Q9 .eql c.Kind 23)
 (cond (Q9 .neq ((v11.1 : Int).tmod 2) 0)
 (some ((⟨0, 0, [], []⟩ : Q0), 0, 5))
 (cond (Q9 .eql c.Kind 24)
 ((Qr N v13.2).bind fun v20 =>
 cond (Q9 .eql v20.1 0)
 (some ((⟨0, 0, [], []⟩ : Q0), 0, 5))
 ((Qm N v20.2 1).bind fun v23 =>
 (Qy N (IntKind.wrap .i64 v23.1)).bind fun v25 =>
 cond (!v25.2)
 (some ((⟨0, 0, [], []⟩ : Q0), 0, 8))
 (cond (Q9 .eql (IntKind.wrap .i64 v23.1) 0)
 (some ((⟨0, 0, [], []⟩ : Q0), 0, 8))
 (Yu rv rz N c most v9 v11 v23 v25 N 0 v23.2.text v23.2.at' v23.2.err []))))
 (Yx rv N c most v9 v11 N 0 v13.2.text v13.2.at' v13.2.err [])))
 (cond (Q9 .eql c.Kind 24)
 ((Qr N v13.2).bind fun v186 =>
 cond (Q9 .eql v186.1 0)
 (some ((⟨0, 0, [], []⟩ : Q0), 0, 5))
 ((Qm N v186.2 1).bind fun v189 =>
 (Qy N (IntKind.wrap .i64 v189.1)).bind fun v191 =>
 cond (!v191.2)
 (some ((⟨0, 0, [], []⟩ : Q0), 0, 8))
 (cond (Q9 .eql (IntKind.wrap .i64 v189.1) 0)
 (some ((⟨0, 0, [], []⟩ : Q0), 0, 8))
 (Zg rv rz N c most v9 v11 v189 v191 N 0 v189.2.text v189.2.at' v189.2.err []))))
 (Yt rv N c most v9 v11 N 0 v13.2.text v13.2.at' v13.2.err []))))))
theorem Q4n {rv : (List UInt8) → Int → Option (Q0 × Int × Int)} {rz : Int → (List UInt8) → Int → Option (Q0 × Int × Int)} {rz1 : (List UInt8) → Int → Option (Q0 × Int × Int)} {ry1 : X5 → (List UInt8) → Int → Option (Q0 × Int × Int)} (hv1 : ∀ {s_0} {most} {r}, rv s_0 most = some r → Zx Tryz.prog G1 73 [.str s_0, .int .i64 most] (.tuple [.agg (Q0.cells r.1), .int .i64 r.2.1, .int .i64 r.2.2])) (hx1 : ∀ {code} {s_1} {most} {r}, rz code s_1 most = some r → Zx Tryz.prog G1 106 [.int .i64 code, .str s_1, .int .i64 most] (.tuple [.agg (Q0.cells r.1), .int .i64 r.2.1, .int .i64 r.2.2])) (hy2 : ∀ {s_0} {most} {r}, rz1 s_0 most = some r → Zx Tryz.prog G1 125 [.str s_0, .int .i64 most] (.tuple [.agg (Q0.cells r.1), .int .i64 r.2.1, .int .i64 r.2.2])) (hx2 : ∀ {c} {s_1} {most} {r}, ry1 c s_1 most = some r → Zx Tryz.prog G1 126 [.agg (X5.cells c), .str s_1, .int .i64 most] (.tuple [.agg (Q0.cells r.1), .int .i64 r.2.1, .int .i64 r.2.2])) {N} {c} {s_1} {most} {r} (h : Wy rv rz rz1 ry1 N c s_1 most = some r) : Zx Tryz.prog G1 126 [.agg (X5.cells c), .str s_1, .int .i64 most] (.tuple [.agg (Q0.cells r.1), .int .i64 r.2.1, .int .i64 r.2.2]) := by
 refine Q6 Qx3 ?_
 unfold Wy at h
 refine Vo Qtm ?_
 refine cM h Y4 rfl p1 fun v1 h => ?_
 refine cM h Z5 rfl p0 fun v3 h => ?_
 apply iU h <;> intro h
 ·obtain rfl := Qb h; exact (Frz.tuple' (.cons q4n p2))
 ·refine cM h Zk rfl p0 fun v6 h => ?_
  apply iU h <;> intro h
  ·obtain rfl := Qb h; exact (Frz.tuple' (.cons q4n p2))
  ·refine cM h Qq rfl p1 fun v9 h => ?_
   refine Vo Qtm ?_
   refine cM h Y4 rfl p1 fun v11 h => ?_
   refine cM h Z5 rfl p0 fun v13 h => ?_
   apply iU h <;> intro h
   ·obtain rfl := Qb h; exact (Frz.tuple' (.cons q4n p2))
   ·apply iU h <;> intro h
    ·obtain rfl := Qb h; exact (Frz.tuple' (.cons q4n p2))
    ·apply iU h <;> intro h
     ·apply iU h <;> intro h
      ·obtain rfl := Qb h; exact (Frz.tuple' (.cons q4n p2))
      ·apply iU h <;> intro h
       ·refine cM h Zk rfl p0 fun v20 h => ?_
        apply iU h <;> intro h
        ·obtain rfl := Qb h; exact (Frz.tuple' (.cons q4n p2))
        ·refine cM h Y4 rfl p1 fun v23 h => ?_
         refine cP h Xb p1 fun v25 h => ?_
         apply iU h <;> intro h
         ·obtain rfl := Qb h; exact (Frz.tuple' (.cons q4n p2))
         ·apply iU h <;> intro h
          ·obtain rfl := Qb h; exact (Frz.tuple' (.cons q4n p2))
          ·refine lpC (τ := Int × (List UInt8) × Int × Int × (List Q0)) (fun ⟨s86, _, _, _, _⟩ => (a4 (a2 (.ptr 1 0 :: .any :: .any :: .ptr 2 0 :: .any :: .ptr 4 0 :: .any :: iI (IntKind.wrap .i64 v23.1) :: a16 (a16 (a16 (a16 (a16 (a2 (.any :: iW v11.1 :: iW s86 :: a16 (a16 (a2 ([]))))))))))) : List AV)) (fun ⟨_, c87, c88, c89, l90⟩ => (.cells (iI c.Code :: iI c.Kind :: iI c.Width :: .p (.bool c.Sized) :: .p (.bool c.Items) :: []) :: .cells (iI c.Kind :: iW (IntKind.wrap .u64 v25.1.Kind) :: iS [] :: .slice 4 6 0 l90.length :: []) :: .cells (iS v9.2.text :: iI v9.2.at' :: iI v9.2.err :: []) :: .cells (iS c87 :: iI c88 :: iI c89 :: []) :: .cells (.ptr 3 0 :: iI (IntKind.wrap .i64 (most - 1)) :: []) :: .cells (iI v25.1.Code :: iI v25.1.Kind :: iI v25.1.Width :: .p (.bool v25.1.Sized) :: .p (.bool v25.1.Items) :: []) :: .cells (Yk Q0.cells l90) :: [] : List AObj)) (fun n0 ⟨s86, c87, c88, c89, l90⟩ => Yu rv rz N c most v9 v11 v23 v25 n0 s86 c87 c88 c89 l90) (0, v23.2.text, v23.2.at', v23.2.err, []) h (fun i => i) ⟨(rV <| rW <| rE rfl <| rW <| rE rfl <| rA <| rE rfl <| rA <| rE rfl <| rX <| rX <| rX <| rX <| rX <| rX <| rX <| rX <| rX <| rX <| rW <| rA <| rE rfl <| rE rfl <| rX <| rX <| rX <| rX <| rW <| rN), (hE rfl <| hC rfl (rE rfl <| rE rfl <| rE rfl <| rS <| rN) <| hE rfl <| hE rfl <| hE rfl <| hE rfl <| hV lb <| hN), rfl, rfl, (roE rfl <| roE rfl <| roE rfl <| roE rfl <| roE rfl <| roE rfl <| roE (Q7 _ _ _) <| roN)⟩ fun n0 ⟨s86, c87, c88, c89, l90⟩ h => ?_
           simp only [Yu] at h
           apply iU h <;> intro h
           ·refine Vo Qsd ?_
            apply iU h <;> intro h
            ·refine Qh ?_
             refine dM h Zi rfl p0 fun v93 h => ?_
             refine cD h hv1 p2 fun v95 h => ?_
             apply iU h <;> intro h
             ·refine cM h Qq rfl p1 fun v98 h => ?_
              apply iU h <;> intro h
              ·refine ifT (by unfold Q9; decide) ?_
               obtain rfl := Qb h; exact (Frz.tuple' (.cons q4n p2))
              ·apply iU h <;> intro h
               ·obtain rfl := Qb h; exact (Frz.tuple' (.cons q4n p2))
               ·obtain ⟨hk102, h⟩ := Q31 h
                refine Q26 (Xo (c := Q0.cells) (e := 4) (fun _ => rfl) (by simp) hk102) ?_
                refine Vh (c := Q0.cells) [v95.1] rfl ?_
                show Exists _
                exact ⟨(n0, (IntKind.wrap .u64 (s86 + 1)), v98.2.text, v98.2.at', v98.2.err, (l90 ++ [v95.1])), h, Nat.lt_succ_self _, (rho [0, 1, 2, 3, 4, 5, 12]), ⟨(rV <| rW <| rE rfl <| rW <| rE rfl <| rA <| rE rfl <| rA <| rE rfl <| rX <| rX <| rX <| rX <| rX <| rX <| rX <| rX <| rX <| rX <| rW <| rA <| rE rfl <| rE rfl <| rX <| rX <| rX <| rX <| rW <| rN), (hE rfl <| hC rfl (rE rfl <| rE rfl <| rE rfl <| rL (by simp) rfl <| rN) <| hE rfl <| hE rfl <| hE rfl <| hE rfl <| hO rfl <| hN), rfl, rfl, (roE rfl <| roE rfl <| roE rfl <| roE rfl <| roE rfl <| roE rfl <| roE (Q7 _ _ _) <| roN)⟩⟩
             ·apply iU h <;> intro h
              ·refine ifT (by unfold Q9; decide) ?_
               obtain rfl := Qb h; exact (Frz.tuple' (.cons q4n p2))
              ·apply iU h <;> intro h
               ·obtain rfl := Qb h; exact (Frz.tuple' (.cons q4n p2))
               ·obtain ⟨hk105, h⟩ := Q31 h
                refine Q26 (Xo (c := Q0.cells) (e := 4) (fun _ => rfl) (by simp) hk105) ?_
                refine Vh (c := Q0.cells) [v95.1] rfl ?_
                show Exists _
                exact ⟨(n0, (IntKind.wrap .u64 (s86 + 1)), v93.2.text, v93.2.at', v93.2.err, (l90 ++ [v95.1])), h, Nat.lt_succ_self _, (rho [0, 1, 2, 3, 4, 5, 12]), ⟨(rV <| rW <| rE rfl <| rW <| rE rfl <| rA <| rE rfl <| rA <| rE rfl <| rX <| rX <| rX <| rX <| rX <| rX <| rX <| rX <| rX <| rX <| rW <| rA <| rE rfl <| rE rfl <| rX <| rX <| rX <| rX <| rW <| rN), (hE rfl <| hC rfl (rE rfl <| rE rfl <| rE rfl <| rL (by simp) rfl <| rN) <| hE rfl <| hE rfl <| hE rfl <| hE rfl <| hO rfl <| hN), rfl, rfl, (roE rfl <| roE rfl <| roE rfl <| roE rfl <| roE rfl <| roE rfl <| roE (Q7 _ _ _) <| roN)⟩⟩
            ·refine Qh ?_
             refine dM h Zi rfl p0 fun v106 h => ?_
             refine cD h hx1 p3 fun v108 h => ?_
             apply iU h <;> intro h
             ·refine cM h Qq rfl p1 fun v111 h => ?_
              apply iU h <;> intro h
              ·refine ifT (by unfold Q9; decide) ?_
               obtain rfl := Qb h; exact (Frz.tuple' (.cons q4n p2))
              ·apply iU h <;> intro h
               ·obtain rfl := Qb h; exact (Frz.tuple' (.cons q4n p2))
               ·obtain ⟨hk115, h⟩ := Q31 h
                refine Q26 (Xo (c := Q0.cells) (e := 4) (fun _ => rfl) (by simp) hk115) ?_
                refine Vh (c := Q0.cells) [v108.1] rfl ?_
                show Exists _
                exact ⟨(n0, (IntKind.wrap .u64 (s86 + 1)), v111.2.text, v111.2.at', v111.2.err, (l90 ++ [v108.1])), h, Nat.lt_succ_self _, (rho [0, 1, 2, 3, 4, 5, 12]), ⟨(rV <| rW <| rE rfl <| rW <| rE rfl <| rA <| rE rfl <| rA <| rE rfl <| rX <| rX <| rX <| rX <| rX <| rX <| rX <| rX <| rX <| rX <| rW <| rA <| rE rfl <| rE rfl <| rX <| rX <| rX <| rX <| rW <| rN), (hE rfl <| hC rfl (rE rfl <| rE rfl <| rE rfl <| rL (by simp) rfl <| rN) <| hE rfl <| hE rfl <| hE rfl <| hE rfl <| hO rfl <| hN), rfl, rfl, (roE rfl <| roE rfl <| roE rfl <| roE rfl <| roE rfl <| roE rfl <| roE (Q7 _ _ _) <| roN)⟩⟩
             ·apply iU h <;> intro h
              ·refine ifT (by unfold Q9; decide) ?_
               obtain rfl := Qb h; exact (Frz.tuple' (.cons q4n p2))
              ·apply iU h <;> intro h
               ·obtain rfl := Qb h; exact (Frz.tuple' (.cons q4n p2))
               ·obtain ⟨hk118, h⟩ := Q31 h
                refine Q26 (Xo (c := Q0.cells) (e := 4) (fun _ => rfl) (by simp) hk118) ?_
                refine Vh (c := Q0.cells) [v108.1] rfl ?_
                show Exists _
                exact ⟨(n0, (IntKind.wrap .u64 (s86 + 1)), v106.2.text, v106.2.at', v106.2.err, (l90 ++ [v108.1])), h, Nat.lt_succ_self _, (rho [0, 1, 2, 3, 4, 5, 12]), ⟨(rV <| rW <| rE rfl <| rW <| rE rfl <| rA <| rE rfl <| rA <| rE rfl <| rX <| rX <| rX <| rX <| rX <| rX <| rX <| rX <| rX <| rX <| rW <| rA <| rE rfl <| rE rfl <| rX <| rX <| rX <| rX <| rW <| rN), (hE rfl <| hC rfl (rE rfl <| rE rfl <| rE rfl <| rL (by simp) rfl <| rN) <| hE rfl <| hE rfl <| hE rfl <| hE rfl <| hO rfl <| hN), rfl, rfl, (roE rfl <| roE rfl <| roE rfl <| roE rfl <| roE rfl <| roE rfl <| roE (Q7 _ _ _) <| roN)⟩⟩
           ·refine cM h Zk rfl p0 fun v119 h => ?_
            apply iU h <;> intro h
            ·obtain rfl := Qb h; exact (Frz.tuple' (.cons q4n p2))
            ·refine cK h V5 (.cons (Frz.agg' (.cons (.p _) (.cons (.p _) (.cons (.p _) (.cons (Q0.frz_own (l := l90) rfl trivial (by simp)) .nil))))) .nil) fun v122 h => ?_
             apply iU h <;> intro h
             ·obtain rfl := Qb h; exact (Frz.tuple' (.cons q4n p2))
             ·refine Qh ?_
              refine dM h Zm rfl p0 fun v125 h => ?_
              obtain rfl := Qb h; exact (Frz.tuple' (.cons (Frz.agg' (.cons (.p _) (.cons (.p _) (.cons (.p _) (.cons (Q0.frz_own (l := l90) rfl trivial (by simp)) .nil))))) p2))
       ·refine lpC (τ := Int × (List UInt8) × Int × Int × (List Q0)) (fun ⟨s158, _, _, _, _⟩ => (a4 (a2 (.ptr 1 0 :: .any :: .any :: .ptr 2 0 :: .any :: .ptr 4 0 :: .any :: iI (-1) :: a16 (a16 (a16 (a16 (a16 (a2 (.any :: iW v11.1 :: iW s158 :: a16 (a16 (a2 ([]))))))))))) : List AV)) (fun ⟨_, Qn7, Qo0, Qnh, l162⟩ => (.cells (iI c.Code :: iI c.Kind :: iI c.Width :: .p (.bool c.Sized) :: .p (.bool c.Items) :: []) :: .cells (iI c.Kind :: iW 0 :: iS [] :: .slice 4 5 0 l162.length :: []) :: .cells (iS v9.2.text :: iI v9.2.at' :: iI v9.2.err :: []) :: .cells (iS Qn7 :: iI Qo0 :: iI Qnh :: []) :: .cells (.ptr 3 0 :: iI (IntKind.wrap .i64 (most - 1)) :: []) :: .cells (Yk Q0.cells l162) :: [] : List AObj)) (fun n1 ⟨s158, Qn7, Qo0, Qnh, l162⟩ => Yx rv N c most v9 v11 n1 s158 Qn7 Qo0 Qnh l162) (0, v13.2.text, v13.2.at', v13.2.err, []) h (fun i => i) ⟨(rV <| rW <| rE rfl <| rW <| rE rfl <| rA <| rE rfl <| rA <| rE rfl <| rX <| rX <| rX <| rX <| rX <| rX <| rX <| rX <| rX <| rX <| rW <| rA <| rE rfl <| rE rfl <| rX <| rX <| rX <| rX <| rW <| rN), (hE rfl <| hC rfl (rE rfl <| rE rfl <| rE rfl <| rS <| rN) <| hE rfl <| hE rfl <| hE rfl <| hV lb <| hN), rfl, rfl, (roE rfl <| roE rfl <| roE rfl <| roE rfl <| roE rfl <| roE (Q7 _ _ _) <| roN)⟩ fun n1 ⟨s158, Qn7, Qo0, Qnh, l162⟩ h => ?_
        simp only [Yx] at h
        apply iU h <;> intro h
        ·refine Vo Qsd ?_
         refine ifT (by unfold Q9; decide) ?_
         refine Qh ?_
         refine dM h Zi rfl p0 fun v164 h => ?_
         refine cD h hv1 p2 fun v166 h => ?_
         apply iU h <;> intro h
         ·refine cM h Qq rfl p1 fun v169 h => ?_
          apply iU h <;> intro h
          ·refine ifT (by unfold Q9; decide) ?_
           obtain rfl := Qb h; exact (Frz.tuple' (.cons q4n p2))
          ·apply iU h <;> intro h
           ·obtain rfl := Qb h; exact (Frz.tuple' (.cons q4n p2))
           ·obtain ⟨hk173, h⟩ := Q31 h
            refine Q26 (Xo (c := Q0.cells) (e := 4) (fun _ => rfl) (by simp) hk173) ?_
            refine Vh (c := Q0.cells) [v166.1] rfl ?_
            show Exists _
            exact ⟨(n1, (IntKind.wrap .u64 (s158 + 1)), v169.2.text, v169.2.at', v169.2.err, (l162 ++ [v166.1])), h, Nat.lt_succ_self _, (rho [0, 1, 2, 3, 4, 11]), ⟨(rV <| rW <| rE rfl <| rW <| rE rfl <| rA <| rE rfl <| rA <| rE rfl <| rX <| rX <| rX <| rX <| rX <| rX <| rX <| rX <| rX <| rX <| rW <| rA <| rE rfl <| rE rfl <| rX <| rX <| rX <| rX <| rW <| rN), (hE rfl <| hC rfl (rE rfl <| rE rfl <| rE rfl <| rL (by simp) rfl <| rN) <| hE rfl <| hE rfl <| hE rfl <| hO rfl <| hN), rfl, rfl, (roE rfl <| roE rfl <| roE rfl <| roE rfl <| roE rfl <| roE (Q7 _ _ _) <| roN)⟩⟩
         ·apply iU h <;> intro h
          ·refine ifT (by unfold Q9; decide) ?_
           obtain rfl := Qb h; exact (Frz.tuple' (.cons q4n p2))
          ·apply iU h <;> intro h
           ·obtain rfl := Qb h; exact (Frz.tuple' (.cons q4n p2))
           ·obtain ⟨hk176, h⟩ := Q31 h
            refine Q26 (Xo (c := Q0.cells) (e := 4) (fun _ => rfl) (by simp) hk176) ?_
            refine Vh (c := Q0.cells) [v166.1] rfl ?_
            show Exists _
            exact ⟨(n1, (IntKind.wrap .u64 (s158 + 1)), v164.2.text, v164.2.at', v164.2.err, (l162 ++ [v166.1])), h, Nat.lt_succ_self _, (rho [0, 1, 2, 3, 4, 11]), ⟨(rV <| rW <| rE rfl <| rW <| rE rfl <| rA <| rE rfl <| rA <| rE rfl <| rX <| rX <| rX <| rX <| rX <| rX <| rX <| rX <| rX <| rX <| rW <| rA <| rE rfl <| rE rfl <| rX <| rX <| rX <| rX <| rW <| rN), (hE rfl <| hC rfl (rE rfl <| rE rfl <| rE rfl <| rL (by simp) rfl <| rN) <| hE rfl <| hE rfl <| hE rfl <| hO rfl <| hN), rfl, rfl, (roE rfl <| roE rfl <| roE rfl <| roE rfl <| roE rfl <| roE (Q7 _ _ _) <| roN)⟩⟩
        ·refine cM h Zk rfl p0 fun v177 h => ?_
         apply iU h <;> intro h
         ·obtain rfl := Qb h; exact (Frz.tuple' (.cons q4n p2))
         ·refine cK h V5 (.cons (Frz.agg' (.cons (.p _) (.cons (.p _) (.cons (.p _) (.cons (Q0.frz_own (l := l162) rfl trivial (by simp)) .nil))))) .nil) fun v180 h => ?_
          apply iU h <;> intro h
          ·obtain rfl := Qb h; exact (Frz.tuple' (.cons q4n p2))
          ·refine Qh ?_
           refine dM h Zm rfl p0 fun v183 h => ?_
           obtain rfl := Qb h; exact (Frz.tuple' (.cons (Frz.agg' (.cons (.p _) (.cons (.p _) (.cons (.p _) (.cons (Q0.frz_own (l := l162) rfl trivial (by simp)) .nil))))) p2))
     ·apply iU h <;> intro h
      ·refine cM h Zk rfl p0 fun v186 h => ?_
       apply iU h <;> intro h
       ·obtain rfl := Qb h; exact (Frz.tuple' (.cons q4n p2))
       ·refine cM h Y4 rfl p1 fun v189 h => ?_
        refine cP h Xb p1 fun v191 h => ?_
        apply iU h <;> intro h
        ·obtain rfl := Qb h; exact (Frz.tuple' (.cons q4n p2))
        ·apply iU h <;> intro h
         ·obtain rfl := Qb h; exact (Frz.tuple' (.cons q4n p2))
         ·refine lpC (τ := Int × (List UInt8) × Int × Int × (List Q0)) (fun ⟨s252, _, _, _, _⟩ => (a4 (a2 (.ptr 1 0 :: .any :: .any :: .ptr 2 0 :: .any :: .ptr 4 0 :: .any :: iI (IntKind.wrap .i64 v189.1) :: a16 (a16 (a16 (a16 (a16 (a2 (.any :: iW v11.1 :: iW s252 :: a16 (a16 (a2 ([]))))))))))) : List AV)) (fun ⟨_, c253, c254, c255, l256⟩ => (.cells (iI c.Code :: iI c.Kind :: iI c.Width :: .p (.bool c.Sized) :: .p (.bool c.Items) :: []) :: .cells (iI c.Kind :: iW (IntKind.wrap .u64 v191.1.Kind) :: iS [] :: .slice 4 6 0 l256.length :: []) :: .cells (iS v9.2.text :: iI v9.2.at' :: iI v9.2.err :: []) :: .cells (iS c253 :: iI c254 :: iI c255 :: []) :: .cells (.ptr 3 0 :: iI (IntKind.wrap .i64 (most - 1)) :: []) :: .cells (iI v191.1.Code :: iI v191.1.Kind :: iI v191.1.Width :: .p (.bool v191.1.Sized) :: .p (.bool v191.1.Items) :: []) :: .cells (Yk Q0.cells l256) :: [] : List AObj)) (fun n2 ⟨s252, c253, c254, c255, l256⟩ => Zg rv rz N c most v9 v11 v189 v191 n2 s252 c253 c254 c255 l256) (0, v189.2.text, v189.2.at', v189.2.err, []) h (fun i => i) ⟨(rV <| rW <| rE rfl <| rW <| rE rfl <| rA <| rE rfl <| rA <| rE rfl <| rX <| rX <| rX <| rX <| rX <| rX <| rX <| rX <| rX <| rX <| rW <| rA <| rE rfl <| rE rfl <| rX <| rX <| rX <| rX <| rW <| rN), (hE rfl <| hC rfl (rE rfl <| rE rfl <| rE rfl <| rS <| rN) <| hE rfl <| hE rfl <| hE rfl <| hE rfl <| hV lb <| hN), rfl, rfl, (roE rfl <| roE rfl <| roE rfl <| roE rfl <| roE rfl <| roE rfl <| roE (Q7 _ _ _) <| roN)⟩ fun n2 ⟨s252, c253, c254, c255, l256⟩ h => ?_
          simp only [Zg] at h
          apply iU h <;> intro h
          ·refine Vo Qsd ?_
           apply iU h <;> intro h
           ·refine Qh ?_
            refine dM h Zi rfl p0 fun v259 h => ?_
            refine cD h hv1 p2 fun v261 h => ?_
            apply iU h <;> intro h
            ·refine cM h Qq rfl p1 fun v264 h => ?_
             apply iU h <;> intro h
             ·refine ifT (by unfold Q9; decide) ?_
              obtain rfl := Qb h; exact (Frz.tuple' (.cons q4n p2))
             ·apply iU h <;> intro h
              ·obtain rfl := Qb h; exact (Frz.tuple' (.cons q4n p2))
              ·obtain ⟨hk268, h⟩ := Q31 h
               refine Q26 (Xo (c := Q0.cells) (e := 4) (fun _ => rfl) (by simp) hk268) ?_
               refine Vh (c := Q0.cells) [v261.1] rfl ?_
               show Exists _
               exact ⟨(n2, (IntKind.wrap .u64 (s252 + 1)), v264.2.text, v264.2.at', v264.2.err, (l256 ++ [v261.1])), h, Nat.lt_succ_self _, (rho [0, 1, 2, 3, 4, 5, 12]), ⟨(rV <| rW <| rE rfl <| rW <| rE rfl <| rA <| rE rfl <| rA <| rE rfl <| rX <| rX <| rX <| rX <| rX <| rX <| rX <| rX <| rX <| rX <| rW <| rA <| rE rfl <| rE rfl <| rX <| rX <| rX <| rX <| rW <| rN), (hE rfl <| hC rfl (rE rfl <| rE rfl <| rE rfl <| rL (by simp) rfl <| rN) <| hE rfl <| hE rfl <| hE rfl <| hE rfl <| hO rfl <| hN), rfl, rfl, (roE rfl <| roE rfl <| roE rfl <| roE rfl <| roE rfl <| roE rfl <| roE (Q7 _ _ _) <| roN)⟩⟩
            ·apply iU h <;> intro h
             ·refine ifT (by unfold Q9; decide) ?_
              obtain rfl := Qb h; exact (Frz.tuple' (.cons q4n p2))
             ·apply iU h <;> intro h
              ·obtain rfl := Qb h; exact (Frz.tuple' (.cons q4n p2))
              ·obtain ⟨hk271, h⟩ := Q31 h
               refine Q26 (Xo (c := Q0.cells) (e := 4) (fun _ => rfl) (by simp) hk271) ?_
               refine Vh (c := Q0.cells) [v261.1] rfl ?_
               show Exists _
               exact ⟨(n2, (IntKind.wrap .u64 (s252 + 1)), v259.2.text, v259.2.at', v259.2.err, (l256 ++ [v261.1])), h, Nat.lt_succ_self _, (rho [0, 1, 2, 3, 4, 5, 12]), ⟨(rV <| rW <| rE rfl <| rW <| rE rfl <| rA <| rE rfl <| rA <| rE rfl <| rX <| rX <| rX <| rX <| rX <| rX <| rX <| rX <| rX <| rX <| rW <| rA <| rE rfl <| rE rfl <| rX <| rX <| rX <| rX <| rW <| rN), (hE rfl <| hC rfl (rE rfl <| rE rfl <| rE rfl <| rL (by simp) rfl <| rN) <| hE rfl <| hE rfl <| hE rfl <| hE rfl <| hO rfl <| hN), rfl, rfl, (roE rfl <| roE rfl <| roE rfl <| roE rfl <| roE rfl <| roE rfl <| roE (Q7 _ _ _) <| roN)⟩⟩
           ·refine Qh ?_
            refine dM h Zi rfl p0 fun v272 h => ?_
            refine cD h hx1 p3 fun v274 h => ?_
            apply iU h <;> intro h
            ·refine cM h Qq rfl p1 fun v277 h => ?_
             apply iU h <;> intro h
             ·refine ifT (by unfold Q9; decide) ?_
              obtain rfl := Qb h; exact (Frz.tuple' (.cons q4n p2))
             ·apply iU h <;> intro h
              ·obtain rfl := Qb h; exact (Frz.tuple' (.cons q4n p2))
              ·obtain ⟨hk281, h⟩ := Q31 h
               refine Q26 (Xo (c := Q0.cells) (e := 4) (fun _ => rfl) (by simp) hk281) ?_
               refine Vh (c := Q0.cells) [v274.1] rfl ?_
               show Exists _
               exact ⟨(n2, (IntKind.wrap .u64 (s252 + 1)), v277.2.text, v277.2.at', v277.2.err, (l256 ++ [v274.1])), h, Nat.lt_succ_self _, (rho [0, 1, 2, 3, 4, 5, 12]), ⟨(rV <| rW <| rE rfl <| rW <| rE rfl <| rA <| rE rfl <| rA <| rE rfl <| rX <| rX <| rX <| rX <| rX <| rX <| rX <| rX <| rX <| rX <| rW <| rA <| rE rfl <| rE rfl <| rX <| rX <| rX <| rX <| rW <| rN), (hE rfl <| hC rfl (rE rfl <| rE rfl <| rE rfl <| rL (by simp) rfl <| rN) <| hE rfl <| hE rfl <| hE rfl <| hE rfl <| hO rfl <| hN), rfl, rfl, (roE rfl <| roE rfl <| roE rfl <| roE rfl <| roE rfl <| roE rfl <| roE (Q7 _ _ _) <| roN)⟩⟩
            ·apply iU h <;> intro h
             ·refine ifT (by unfold Q9; decide) ?_
              obtain rfl := Qb h; exact (Frz.tuple' (.cons q4n p2))
             ·apply iU h <;> intro h
              ·obtain rfl := Qb h; exact (Frz.tuple' (.cons q4n p2))
              ·obtain ⟨hk284, h⟩ := Q31 h
               refine Q26 (Xo (c := Q0.cells) (e := 4) (fun _ => rfl) (by simp) hk284) ?_
               refine Vh (c := Q0.cells) [v274.1] rfl ?_
               show Exists _
               exact ⟨(n2, (IntKind.wrap .u64 (s252 + 1)), v272.2.text, v272.2.at', v272.2.err, (l256 ++ [v274.1])), h, Nat.lt_succ_self _, (rho [0, 1, 2, 3, 4, 5, 12]), ⟨(rV <| rW <| rE rfl <| rW <| rE rfl <| rA <| rE rfl <| rA <| rE rfl <| rX <| rX <| rX <| rX <| rX <| rX <| rX <| rX <| rX <| rX <| rW <| rA <| rE rfl <| rE rfl <| rX <| rX <| rX <| rX <| rW <| rN), (hE rfl <| hC rfl (rE rfl <| rE rfl <| rE rfl <| rL (by simp) rfl <| rN) <| hE rfl <| hE rfl <| hE rfl <| hE rfl <| hO rfl <| hN), rfl, rfl, (roE rfl <| roE rfl <| roE rfl <| roE rfl <| roE rfl <| roE rfl <| roE (Q7 _ _ _) <| roN)⟩⟩
          ·refine cM h Zk rfl p0 fun v285 h => ?_
           apply iU h <;> intro h
           ·obtain rfl := Qb h; exact (Frz.tuple' (.cons q4n p2))
           ·refine cK h V5 (.cons (Frz.agg' (.cons (.p _) (.cons (.p _) (.cons (.p _) (.cons (Q0.frz_own (l := l256) rfl trivial (by simp)) .nil))))) .nil) fun v288 h => ?_
            apply iU h <;> intro h
            ·obtain rfl := Qb h; exact (Frz.tuple' (.cons q4n p2))
            ·refine Qh ?_
             refine dM h Zm rfl p0 fun v291 h => ?_
             obtain rfl := Qb h; exact (Frz.tuple' (.cons (Frz.agg' (.cons (.p _) (.cons (.p _) (.cons (.p _) (.cons (Q0.frz_own (l := l256) rfl trivial (by simp)) .nil))))) p2))
      ·refine lpC (τ := Int × (List UInt8) × Int × Int × (List Q0)) (fun ⟨s324, _, _, _, _⟩ => (a4 (a2 (.ptr 1 0 :: .any :: .any :: .ptr 2 0 :: .any :: .ptr 4 0 :: .any :: iI (-1) :: a16 (a16 (a16 (a16 (a16 (a2 (.any :: iW v11.1 :: iW s324 :: a16 (a16 (a2 ([]))))))))))) : List AV)) (fun ⟨_, c325, c326, c327, l328⟩ => (.cells (iI c.Code :: iI c.Kind :: iI c.Width :: .p (.bool c.Sized) :: .p (.bool c.Items) :: []) :: .cells (iI c.Kind :: iW 0 :: iS [] :: .slice 4 5 0 l328.length :: []) :: .cells (iS v9.2.text :: iI v9.2.at' :: iI v9.2.err :: []) :: .cells (iS c325 :: iI c326 :: iI c327 :: []) :: .cells (.ptr 3 0 :: iI (IntKind.wrap .i64 (most - 1)) :: []) :: .cells (Yk Q0.cells l328) :: [] : List AObj)) (fun n3 ⟨s324, c325, c326, c327, l328⟩ => Yt rv N c most v9 v11 n3 s324 c325 c326 c327 l328) (0, v13.2.text, v13.2.at', v13.2.err, []) h (fun i => i) ⟨(rV <| rW <| rE rfl <| rW <| rE rfl <| rA <| rE rfl <| rA <| rE rfl <| rX <| rX <| rX <| rX <| rX <| rX <| rX <| rX <| rX <| rX <| rW <| rA <| rE rfl <| rE rfl <| rX <| rX <| rX <| rX <| rW <| rN), (hE rfl <| hC rfl (rE rfl <| rE rfl <| rE rfl <| rS <| rN) <| hE rfl <| hE rfl <| hE rfl <| hV lb <| hN), rfl, rfl, (roE rfl <| roE rfl <| roE rfl <| roE rfl <| roE rfl <| roE (Q7 _ _ _) <| roN)⟩ fun n3 ⟨s324, c325, c326, c327, l328⟩ h => ?_
       simp only [Yt] at h
       apply iU h <;> intro h
       ·refine Vo Qsd ?_
        refine ifT (by unfold Q9; decide) ?_
        refine Qh ?_
        refine dM h Zi rfl p0 fun v330 h => ?_
        refine cD h hv1 p2 fun v332 h => ?_
        apply iU h <;> intro h
        ·refine cM h Qq rfl p1 fun v335 h => ?_
         apply iU h <;> intro h
         ·refine ifT (by unfold Q9; decide) ?_
          obtain rfl := Qb h; exact (Frz.tuple' (.cons q4n p2))
         ·apply iU h <;> intro h
          ·obtain rfl := Qb h; exact (Frz.tuple' (.cons q4n p2))
          ·obtain ⟨hk339, h⟩ := Q31 h
           refine Q26 (Xo (c := Q0.cells) (e := 4) (fun _ => rfl) (by simp) hk339) ?_
           refine Vh (c := Q0.cells) [v332.1] rfl ?_
           show Exists _
           exact ⟨(n3, (IntKind.wrap .u64 (s324 + 1)), v335.2.text, v335.2.at', v335.2.err, (l328 ++ [v332.1])), h, Nat.lt_succ_self _, (rho [0, 1, 2, 3, 4, 11]), ⟨(rV <| rW <| rE rfl <| rW <| rE rfl <| rA <| rE rfl <| rA <| rE rfl <| rX <| rX <| rX <| rX <| rX <| rX <| rX <| rX <| rX <| rX <| rW <| rA <| rE rfl <| rE rfl <| rX <| rX <| rX <| rX <| rW <| rN), (hE rfl <| hC rfl (rE rfl <| rE rfl <| rE rfl <| rL (by simp) rfl <| rN) <| hE rfl <| hE rfl <| hE rfl <| hO rfl <| hN), rfl, rfl, (roE rfl <| roE rfl <| roE rfl <| roE rfl <| roE rfl <| roE (Q7 _ _ _) <| roN)⟩⟩
        ·apply iU h <;> intro h
         ·refine ifT (by unfold Q9; decide) ?_
          obtain rfl := Qb h; exact (Frz.tuple' (.cons q4n p2))
         ·apply iU h <;> intro h
          ·obtain rfl := Qb h; exact (Frz.tuple' (.cons q4n p2))
          ·obtain ⟨hk342, h⟩ := Q31 h
           refine Q26 (Xo (c := Q0.cells) (e := 4) (fun _ => rfl) (by simp) hk342) ?_
           refine Vh (c := Q0.cells) [v332.1] rfl ?_
           show Exists _
           exact ⟨(n3, (IntKind.wrap .u64 (s324 + 1)), v330.2.text, v330.2.at', v330.2.err, (l328 ++ [v332.1])), h, Nat.lt_succ_self _, (rho [0, 1, 2, 3, 4, 11]), ⟨(rV <| rW <| rE rfl <| rW <| rE rfl <| rA <| rE rfl <| rA <| rE rfl <| rX <| rX <| rX <| rX <| rX <| rX <| rX <| rX <| rX <| rX <| rW <| rA <| rE rfl <| rE rfl <| rX <| rX <| rX <| rX <| rW <| rN), (hE rfl <| hC rfl (rE rfl <| rE rfl <| rE rfl <| rL (by simp) rfl <| rN) <| hE rfl <| hE rfl <| hE rfl <| hO rfl <| hN), rfl, rfl, (roE rfl <| roE rfl <| roE rfl <| roE rfl <| roE rfl <| roE (Q7 _ _ _) <| roN)⟩⟩
       ·refine cM h Zk rfl p0 fun v343 h => ?_
        apply iU h <;> intro h
        ·obtain rfl := Qb h; exact (Frz.tuple' (.cons q4n p2))
        ·refine cK h V5 (.cons (Frz.agg' (.cons (.p _) (.cons (.p _) (.cons (.p _) (.cons (Q0.frz_own (l := l328) rfl trivial (by simp)) .nil))))) .nil) fun v346 h => ?_
         apply iU h <;> intro h
         ·obtain rfl := Qb h; exact (Frz.tuple' (.cons q4n p2))
         ·refine Qh ?_
          refine dM h Zm rfl p0 fun v349 h => ?_
          obtain rfl := Qb h; exact (Frz.tuple' (.cons (Frz.agg' (.cons (.p _) (.cons (.p _) (.cons (.p _) (.cons (Q0.frz_own (l := l328) rfl trivial (by simp)) .nil))))) p2))
def Qc : Nat → ((List UInt8) → Int → Option (Q0 × Int × Int)) × (Int → (List UInt8) → Int → Option (Q0 × Int × Int)) × ((List UInt8) → Int → Option (Q0 × Int × Int)) × (X5 → (List UInt8) → Int → Option (Q0 × Int × Int))
 | 0 => (fun _ _ => none, fun _ _ _ => none, fun _ _ => none, fun _ _ _ => none)
 | N + 1 => (Uf ((Qc N).1) ((Qc N).2.1) ((Qc N).2.2.1) ((Qc N).2.2.2) N, Wq ((Qc N).1) ((Qc N).2.1) ((Qc N).2.2.1) ((Qc N).2.2.2) N, Wf ((Qc N).1) ((Qc N).2.1) ((Qc N).2.2.1) ((Qc N).2.2.2) N, Wy ((Qc N).1) ((Qc N).2.1) ((Qc N).2.2.1) ((Qc N).2.2.2) N)
def Yd (N : Nat) : (List UInt8) → Int → Option (Q0 × Int × Int) := (Qc N).1
def Xx (N : Nat) : Int → (List UInt8) → Int → Option (Q0 × Int × Int) := (Qc N).2.1
def Wj (N : Nat) : (List UInt8) → Int → Option (Q0 × Int × Int) := (Qc N).2.2.1
def Vz (N : Nat) : X5 → (List UInt8) → Int → Option (Q0 × Int × Int) := (Qc N).2.2.2
theorem Q5k : ∀ N, (∀ {s_0 : List UInt8} {most : Int} {r : Q0 × Int × Int}, (Qc N).1 s_0 most = some r → Zx Tryz.prog G1 73 [.str s_0, .int .i64 most] (.tuple [.agg (Q0.cells r.1), .int .i64 r.2.1, .int .i64 r.2.2])) ∧ (∀ {code : Int} {s_1 : List UInt8} {most : Int} {r : Q0 × Int × Int}, (Qc N).2.1 code s_1 most = some r → Zx Tryz.prog G1 106 [.int .i64 code, .str s_1, .int .i64 most] (.tuple [.agg (Q0.cells r.1), .int .i64 r.2.1, .int .i64 r.2.2])) ∧ (∀ {s_0 : List UInt8} {most : Int} {r : Q0 × Int × Int}, (Qc N).2.2.1 s_0 most = some r → Zx Tryz.prog G1 125 [.str s_0, .int .i64 most] (.tuple [.agg (Q0.cells r.1), .int .i64 r.2.1, .int .i64 r.2.2])) ∧ (∀ {c : X5} {s_1 : List UInt8} {most : Int} {r : Q0 × Int × Int}, (Qc N).2.2.2 c s_1 most = some r → Zx Tryz.prog G1 126 [.agg (X5.cells c), .str s_1, .int .i64 most] (.tuple [.agg (Q0.cells r.1), .int .i64 r.2.1, .int .i64 r.2.2])) := by
 intro N
 induction N with
 | zero => exact ⟨(fun h => by simp [Qc] at h), (fun h => by simp [Qc] at h), (fun h => by simp [Qc] at h), (fun h => by simp [Qc] at h)⟩
 | succ N ih => exact ⟨(fun h => Q5s (N := N) (fun h => ih.1 h) (fun h => ih.2.1 h) (fun h => ih.2.2.1 h) (fun h => ih.2.2.2 h) h), (fun h => Q53 (N := N) (fun h => ih.1 h) (fun h => ih.2.1 h) (fun h => ih.2.2.1 h) (fun h => ih.2.2.2 h) h), (fun h => Q1x (N := N) (fun h => ih.1 h) (fun h => ih.2.1 h) (fun h => ih.2.2.1 h) (fun h => ih.2.2.2 h) h), (fun h => Q4n (N := N) (fun h => ih.1 h) (fun h => ih.2.1 h) (fun h => ih.2.2.1 h) (fun h => ih.2.2.2 h) h)⟩
theorem Q5v {N : Nat} {s_0 : List UInt8} {most : Int} {r : Q0 × Int × Int} (h : Yd N s_0 most = some r) : Zx Tryz.prog G1 73 [.str s_0, .int .i64 most] (.tuple [.agg (Q0.cells r.1), .int .i64 r.2.1, .int .i64 r.2.2]) := (Q5k N).1 h
def Ud (N : Nat) (s_0 : List UInt8) (l : Z8) : Option (Int × Int) :=
 (Wz N l).bind fun v1 =>
 cond (!v1)
 (some (0, 2))
 (cond (Q9 .lss (s_0.length : Int) 8)
 (some (0, 3))
 ((idx s_0 0).bind fun b5 =>
 (idx s_0 1).bind fun b7 =>
 (idx s_0 2).bind fun b9 =>
 (idx s_0 3).bind fun b11 =>
 (idx s_0 4).bind fun b13 =>
 (idx s_0 5).bind fun b15 =>
 (idx s_0 6).bind fun b17 =>
 (idx s_0 7).bind fun b19 =>
 (J2 N [UInt8.ofNat (b5.toNat : Int).toNat, UInt8.ofNat (b7.toNat : Int).toNat, UInt8.ofNat (b9.toNat : Int).toNat, UInt8.ofNat (b11.toNat : Int).toNat]).bind fun v21 =>
 cond (Q9 .gtr v21 (IntKind.wrap .u64 l.MaxPacket))
 (some (0, 4))
 (cond (Q9 .lss v21 8)
 (some (0, 5))
 (cond (Q9 .lss (b13.toNat : Int) 2)
 (some (0, 5))
 (cond (Q9 .gtr (IntKind.wrap .u64 ((IntKind.wrap .u64 (b13.toNat : Int)) * 4)) v21)
 (some (0, 5))
 ((V3 N (IntKind.wrap .i64 (b15.toNat : Int))).bind fun v27 =>
 cond (!v27)
 (some (0, 8))
 (some ((IntKind.wrap .i64 v21), 0))))))))
theorem Q5h {N} {s_0} {l} {r} (h : Ud N s_0 l = some r) : Zx Tryz.prog G1 37 [.str s_0, .agg (Z8.cells l)] (.tuple [.int .i64 r.1, .int .i64 r.2]) := by
 refine Q6 k37 ?_
 unfold Ud at h
 refine cP h Gw (.cons q2 .nil) fun v1 h => ?_
 apply iU h <;> intro h
 ·obtain rfl := Qb h; exact u2
 ·apply iU h <;> intro h
  ·obtain rfl := Qb h; exact u2
  ·obtain ⟨b5, hy6, h⟩ := Gt h
   obtain ⟨b7, hy8, h⟩ := Gt h
   obtain ⟨b9, hy10, h⟩ := Gt h
   obtain ⟨b11, hy12, h⟩ := Gt h
   obtain ⟨b13, hy14, h⟩ := Gt h
   obtain ⟨b15, hy16, h⟩ := Gt h
   obtain ⟨b17, hy18, h⟩ := Gt h
   obtain ⟨b19, hy20, h⟩ := Gt h
   refine Qsu (l := [b5, b7, b9, b11, b13, b15, b17, b19]) (Qpa (Qpa (Qpa (Qpa (Qpa (Qpa (Qpa (Qpa Qxp hy6) hy8) hy10) hy12) hy14) hy16) hy18) hy20) ?_
   refine Qrk ?_
   refine cP h Q0w p1 fun v21 h => ?_
   apply iU h <;> intro h
   ·obtain rfl := Qb h; exact u2
   ·apply iU h <;> intro h
    ·obtain rfl := Qb h; exact u2
    ·apply iU h <;> intro h
     ·obtain rfl := Qb h; exact u2
     ·apply iU h <;> intro h
      ·obtain rfl := Qb h; exact u2
      ·refine cP h Q02 p1 fun v27 h => ?_
       apply iU h <;> intro h
       ·obtain rfl := Qb h; exact u2
       ·obtain rfl := Qb h; exact u2
def W4 (N : Nat) (s_0 : List UInt8) (l : Z8) (v1 : Int × Int) (b5 : UInt8) (b7 : UInt8) (v10 : Int) : Nat → (List UInt8) → (List Q0) → Option (Qk × Int × Int)
 | 0, _, _ => none
 | n + 1, left34, l35 =>
  cond (Q7t .neq left34 [])
  (cond (Q9 .eql (l35.length : Int) 1000)
  (some ((⟨0, 0, [], []⟩ : Qk), 0, 4))
  ((Yd N left34 l.MaxDepth).bind fun v38 =>
  cond (Q9 .eql v38.2.2 3)
  (some ((⟨0, 0, [], []⟩ : Qk), 0, 5))
  (cond (Q9 .neq v38.2.2 0)
  (some ((⟨0, 0, [], []⟩ : Qk), 0, v38.2.2))
  (cond (Nat.ble ((l35.length + 1 + 4096) * 56) 17592186044416) (cond (decide (0 ≤ v38.2.1)) (cond (Nat.ble v38.2.1.toNat left34.length && Nat.ble left34.length left34.length) (W4 N s_0 l v1 b5 b7 v10 n ((left34.take left34.length).drop v38.2.1.toNat) (l35 ++ [v38.1])) none) none) none))))
  (some ((⟨(IntKind.wrap .i64 (b7.toNat : Int)), (IntKind.wrap .i64 v10), ((s_0.take ((IntKind.wrap .i64 (4 * (IntKind.wrap .i64 (b5.toNat : Int)))).toNat)).drop 8), l35⟩ : Qk), v1.1, 0))
def Vi (N : Nat) (s_0 : List UInt8) (l : Z8) : Option (Qk × Int × Int) :=
 (Ud N s_0 l).bind fun v1 =>
 cond (Q9 .neq v1.2 0)
 (some ((⟨0, 0, [], []⟩ : Qk), 0, v1.2))
 (cond (Q9 .lss (s_0.length : Int) v1.1)
 (some ((⟨0, 0, [], []⟩ : Qk), 0, 3))
 ((idx s_0 4).bind fun b5 =>
 (idx s_0 5).bind fun b7 =>
 cond (Nat.ble 6 8 && Nat.ble 8 s_0.length) ((J2 N ((s_0.take 8).drop 6)).bind fun v10 =>
 cond (decide (0 ≤ (IntKind.wrap .i64 (4 * (IntKind.wrap .i64 (b5.toNat : Int)))))) (cond (Nat.ble 8 ((IntKind.wrap .i64 (4 * (IntKind.wrap .i64 (b5.toNat : Int)))).toNat) && Nat.ble ((IntKind.wrap .i64 (4 * (IntKind.wrap .i64 (b5.toNat : Int)))).toNat) s_0.length) (cond (decide (0 ≤ v1.1)) (cond (Nat.ble (IntKind.wrap .i64 (4 * (IntKind.wrap .i64 (b5.toNat : Int)))).toNat v1.1.toNat && Nat.ble v1.1.toNat s_0.length) (W4 N s_0 l v1 b5 b7 v10 N ((s_0.take v1.1.toNat).drop ((IntKind.wrap .i64 (4 * (IntKind.wrap .i64 (b5.toNat : Int)))).toNat)) []) none) none) none) none) none))
theorem Q0l {N} {s_0} {l} {r} (h : Vi N s_0 l = some r) : Zx Tryz.prog G1 38 [.str s_0, .agg (Z8.cells l)] (.tuple [.agg (Qk.cells r.1), .int .i64 r.2.1, .int .i64 r.2.2]) := by
 refine Q6 k38 ?_
 unfold Vi at h
 refine cP h Q5h (.cons (.p _) (.cons q2 .nil)) fun v1 h => ?_
 apply iU h <;> intro h
 ·obtain rfl := Qb h; exact (Frz.tuple' (.cons q4n p2))
 ·apply iU h <;> intro h
  ·obtain rfl := Qb h; exact (Frz.tuple' (.cons q4n p2))
  ·refine xB h fun b5 h => ?_
   refine Qh ?_
   refine xB h fun b7 h => ?_
   refine kU h fun h => ?_
   refine cD h Q0w p1 fun v10 h => ?_
   obtain ⟨hk12, h⟩ := Q31 h
   refine Q26 hk12 ?_
   refine kU h fun h => ?_
   refine Q26 hk12 ?_
   refine kU h fun h => ?_
   refine kU h fun h => ?_
   refine lpC (τ := (List UInt8) × (List Q0)) (fun ⟨left34, _⟩ => (a2 (.any :: .ptr 0 0 :: .ptr 1 0 :: iI v1.1 :: .any :: .any :: iS left34 :: a16 (a16 (a16 (a16 (a4 (.any :: [])))))) : List AV)) (fun ⟨_, l35⟩ => (.cells (iI l.MaxPacket :: iI l.MaxDepth :: []) :: .cells (iI (IntKind.wrap .i64 (b7.toNat : Int)) :: iI (IntKind.wrap .i64 v10) :: .p (.str ((s_0.take ((IntKind.wrap .i64 (4 * (IntKind.wrap .i64 (b5.toNat : Int)))).toNat)).drop 8)) :: .slice 4 2 0 l35.length :: []) :: .cells (Yk Q0.cells l35) :: [] : List AObj)) (fun n0 ⟨left34, l35⟩ => W4 N s_0 l v1 b5 b7 v10 n0 left34 l35) (((s_0.take v1.1.toNat).drop ((IntKind.wrap .i64 (4 * (IntKind.wrap .i64 (b5.toNat : Int)))).toNat)), []) h (fun i => i) ⟨(rW <| rA <| rE rfl <| rE rfl <| rE rfl <| rW <| rE rfl <| rX <| rX <| rX <| rX <| rX <| rX <| rX <| rX <| rV <| rA <| rN), (hE rfl <| hC rfl (rE rfl <| rE rfl <| rE rfl <| rS <| rN) <| hV lb <| hN), rfl, rfl, (roE rfl <| roE rfl <| roE (Q7 _ _ _) <| roN)⟩ fun n0 ⟨left34, l35⟩ h => ?_
   simp only [W4] at h
   apply iU h <;> intro h
   ·apply iU h <;> intro h
    ·obtain rfl := Qb h; exact (Frz.tuple' (.cons q4n p2))
    ·refine cP h Q5v p2 fun v38 h => ?_
     apply iU h <;> intro h
     ·refine ifT (by unfold Q9; decide) ?_
      obtain rfl := Qb h; exact (Frz.tuple' (.cons q4n p2))
     ·apply iU h <;> intro h
      ·obtain rfl := Qb h; exact (Frz.tuple' (.cons q4n p2))
      ·obtain ⟨hk42, h⟩ := Q31 h
       refine Q26 (Xo (c := Q0.cells) (e := 4) (fun _ => rfl) (by simp) hk42) ?_
       refine Vh (c := Q0.cells) [v38.1] rfl ?_
       refine kU h fun h => ?_
       refine kU h fun h => ?_
       show Exists _
       exact ⟨(n0, ((left34.take left34.length).drop v38.2.1.toNat), (l35 ++ [v38.1])), h, Nat.lt_succ_self _, (rho [0, 1, 5]), ⟨(rW <| rA <| rE rfl <| rE rfl <| rE rfl <| rW <| rE rfl <| rX <| rX <| rX <| rX <| rX <| rX <| rX <| rX <| rV <| rA <| rN), (hE rfl <| hC rfl (rE rfl <| rE rfl <| rE rfl <| rL (by simp) rfl <| rN) <| hO rfl <| hN), rfl, rfl, (roE rfl <| roE rfl <| roE (Q7 _ _ _) <| roN)⟩⟩
   ·obtain rfl := Qb h; exact (Frz.tuple' (.cons (Frz.agg' (.cons (.p _) (.cons (.p _) (.cons (.p _) (.cons (Q0.frz_own (l := l35) rfl trivial (by simp)) .nil))))) p2))
def Yn (N : Nat) (a : Qk) (b : Qk) : Nat → Int → Option (Bool)
 | 0, _ => none
 | n + 1, s22 =>
  cond (Q9 .lss s22 ((Q0.rows a.Values).length : Int))
  ((idx a.Values s22).bind fun y24 =>
  (idx b.Values s22).bind fun y26 =>
  (Ws N y24 y26).bind fun v28 =>
  cond (!v28)
  (some false)
  (Yn N a b n (IntKind.wrap .i64 (s22 + 1))))
  (some true)
def Ug (N : Nat) (a : Qk) (b : Qk) : Option (Bool) :=
 cond (Q9 .neq a.Type' b.Type')
 (some false)
 (cond (Q9 .neq a.Channel b.Channel)
 (some false)
 (cond (Q7t .neq a.Ext b.Ext)
 (some false)
 (cond (Q9 .neq ((Q0.rows a.Values).length : Int) ((Q0.rows b.Values).length : Int))
 (some false)
 (Yn N a b N 0))))
theorem Q5f {N} {a} {b} {r} (h : Ug N a b = some r) : Zx Tryz.prog G1 41 [.agg (Qk.cells a), .agg (Qk.cells b)] (.bool r) := by
 refine Q6 k41 ?_
 unfold Ug at h
 apply iU h <;> intro h
 ·cases h; exact (.p _)
 ·apply iU h <;> intro h
  ·cases h; exact (.p _)
  ·apply iU h <;> intro h
   ·cases h; exact (.p _)
   ·apply iU h <;> intro h
    ·cases h; exact (.p _)
    ·refine lpC (τ := Int) (fun s22 => (a2 (.any :: .ptr 1 0 :: a16 (a16 (.p (.slice 4 (Q0.rows a.Values)) :: iI ((Q0.rows a.Values).length : Int) :: iI s22 :: a8 (a4 (.any :: []))))) : List AV)) (fun _ => (.cells (iI a.Type' :: iI a.Channel :: iS a.Ext :: .p (.slice 4 (Q0.rows a.Values)) :: []) :: .cells (iI b.Type' :: iI b.Channel :: iS b.Ext :: .p (.slice 4 (Q0.rows b.Values)) :: []) :: [] : List AObj)) (fun n0 s22 => Yn N a b n0 s22) (0) h (fun i => i) ⟨(rW <| rA <| rE rfl <| rX <| rX <| rX <| rX <| rE rfl <| rE rfl <| rE rfl <| rX <| rV <| rA <| rN), (hE rfl <| hE rfl <| hN), rfl, rfl, (roE rfl <| roE rfl <| roN)⟩ fun n0 s22 h => ?_
     simp only [Yn] at h
     apply iU h <;> intro h
     ·refine Q0.xR h fun y24 h => ?_
      refine Qh ?_
      refine Q0.xR h fun y26 h => ?_
      refine cD h Q5u (.cons q4 (.cons q4 .nil)) fun v28 h => ?_
      apply iU h <;> intro h
      ·cases h; exact (.p _)
      ·show Exists _
       exact ⟨(n0, (IntKind.wrap .i64 (s22 + 1))), h, Nat.lt_succ_self _, (fun i => i), ⟨(rW <| rA <| rE rfl <| rX <| rX <| rX <| rX <| rE rfl <| rE rfl <| rE rfl <| rX <| rV <| rA <| rN), (hE rfl <| hE rfl <| hN), rfl, rfl, (roE rfl <| roE rfl <| roN)⟩⟩
     ·cases h; exact (.p _)
end
end
end Go.Av
