/- The law. Part of a proof of a given statement: for every input the law returns true and the arguments read as before; no condition beyond the given row. -/
import Derived.Test.YtkemhhfbpniioaaGreatDoorLiftF3
namespace Go.Av
noncomputable section
open Go.Proofs
set_option maxRecDepth 100000
set_option maxHeartbeats 4000000
attribute [local irreducible] U4 Xq Q6i Q6x Q5 Q22 Qc5
section
def W1 (R_amqvalue_Read : (List UInt8) → Int → Option (Q0 × Int × Int)) (R_amqvalue_Data : Int → (List UInt8) → Int → Option (Q0 × Int × Int)) (R_amqvalue_described : (List UInt8) → Int → Option (Q0 × Int × Int)) (R_amqvalue_sized : Qd → (List UInt8) → Int → Option (Q0 × Int × Int)) (N : Nat) (s_0 : List UInt8) (most : Int) : Option (Q0 × Int × Int) :=
 (X7 N most).bind fun v1 =>
 cond (!v1)
 (some ((⟨0, 0, [], []⟩ : Q0), 0, 2))
 (cond (Q22 .eql s_0 [])
 (some ((⟨0, 0, [], []⟩ : Q0), 0, 3))
 ((idx s_0 0).bind fun b5 =>
 cond (Nat.ble 1 s_0.length && Nat.ble s_0.length s_0.length) ((R_amqvalue_Data (IntKind.wrap .i64 (b5.toNat : Int)) ((s_0.take s_0.length).drop 1) most).bind fun v8 =>
 cond (Q5 .neq v8.2.2 0)
 (some ((⟨0, 0, [], []⟩ : Q0), 0, v8.2.2))
 (some (v8.1, (IntKind.wrap .i64 (v8.2.1 + 1)), 0))) none))
theorem Q6a {R_amqvalue_Read : (List UInt8) → Int → Option (Q0 × Int × Int)} {R_amqvalue_Data : Int → (List UInt8) → Int → Option (Q0 × Int × Int)} {R_amqvalue_described : (List UInt8) → Int → Option (Q0 × Int × Int)} {R_amqvalue_sized : Qd → (List UInt8) → Int → Option (Q0 × Int × Int)} (hR_amqvalue_Read : ∀ {s_0} {most} {r}, R_amqvalue_Read s_0 most = some r → Zq Tryz.prog G1 73 [.str s_0, .int .i64 most] (.tuple [.agg (Q0.cells r.1), .int .i64 r.2.1, .int .i64 r.2.2])) (hR_amqvalue_Data : ∀ {code} {s_1} {most} {r}, R_amqvalue_Data code s_1 most = some r → Zq Tryz.prog G1 106 [.int .i64 code, .str s_1, .int .i64 most] (.tuple [.agg (Q0.cells r.1), .int .i64 r.2.1, .int .i64 r.2.2])) (hR_amqvalue_described : ∀ {s_0} {most} {r}, R_amqvalue_described s_0 most = some r → Zq Tryz.prog G1 125 [.str s_0, .int .i64 most] (.tuple [.agg (Q0.cells r.1), .int .i64 r.2.1, .int .i64 r.2.2])) (hR_amqvalue_sized : ∀ {c} {s_1} {most} {r}, R_amqvalue_sized c s_1 most = some r → Zq Tryz.prog G1 126 [.agg (Qd.cells c), .str s_1, .int .i64 most] (.tuple [.agg (Q0.cells r.1), .int .i64 r.2.1, .int .i64 r.2.2])) {N} {s_0} {most} {r} (h : W1 R_amqvalue_Read R_amqvalue_Data R_amqvalue_described R_amqvalue_sized N s_0 most = some r) : Zq Tryz.prog G1 73 [.str s_0, .int .i64 most] (.tuple [.agg (Q0.cells r.1), .int .i64 r.2.1, .int .i64 r.2.2]) := by
 refine Q4 k73 ?_
 unfold W1 at h
 refine cP h Uf p1 fun v1 h => ?_
 apply iU h <;> intro h
 ·obtain rfl := Qb h; exact (Frz.tuple' (.cons q4n p2))
 ·apply iU h <;> intro h
  ·obtain rfl := Qb h; exact (Frz.tuple' (.cons q4n p2))
  ·refine Qo ?_
   refine xB h fun b5 h => ?_
   refine kU h fun h => ?_
   refine cD h hR_amqvalue_Data p3 fun v8 h => ?_
   apply iU h <;> intro h
   ·obtain rfl := Qb h; exact (Frz.tuple' (.cons q4n p2))
   ·obtain rfl := Qb h; exact (Frz.tuple' (.cons q4 p2))
def Vl (R_amqvalue_Read : (List UInt8) → Int → Option (Q0 × Int × Int)) (R_amqvalue_Data : Int → (List UInt8) → Int → Option (Q0 × Int × Int)) (R_amqvalue_described : (List UInt8) → Int → Option (Q0 × Int × Int)) (R_amqvalue_sized : Qd → (List UInt8) → Int → Option (Q0 × Int × Int)) (N : Nat) (code : Int) (s_1 : List UInt8) (most : Int) : Option (Q0 × Int × Int) :=
 (X7 N most).bind fun v1 =>
 cond (!v1)
 (some ((⟨0, 0, [], []⟩ : Q0), 0, 2))
 ((Z7 N code).bind fun v4 =>
 cond (!v4.2)
 (some ((⟨0, 0, [], []⟩ : Q0), 0, 8))
 (cond (!v4.1.Items)
 ((G5 N code s_1).bind fun v8 =>
 some (v8.1, v8.2.1, v8.2.2))
 (cond (Q5 .eql most 0)
 (some ((⟨0, 0, [], []⟩ : Q0), 0, 14))
 (cond (Q5 .eql v4.1.Kind 25)
 ((R_amqvalue_described s_1 most).bind fun v12 =>
 some (v12.1, v12.2.1, v12.2.2))
 (cond (!v4.1.Sized)
 (some ((⟨v4.1.Kind, 0, [], []⟩ : Q0), 0, 0))
 ((R_amqvalue_sized v4.1 s_1 most).bind fun v15 =>
 some (v15.1, v15.2.1, v15.2.2)))))))
theorem Q5c {R_amqvalue_Read : (List UInt8) → Int → Option (Q0 × Int × Int)} {R_amqvalue_Data : Int → (List UInt8) → Int → Option (Q0 × Int × Int)} {R_amqvalue_described : (List UInt8) → Int → Option (Q0 × Int × Int)} {R_amqvalue_sized : Qd → (List UInt8) → Int → Option (Q0 × Int × Int)} (hR_amqvalue_Read : ∀ {s_0} {most} {r}, R_amqvalue_Read s_0 most = some r → Zq Tryz.prog G1 73 [.str s_0, .int .i64 most] (.tuple [.agg (Q0.cells r.1), .int .i64 r.2.1, .int .i64 r.2.2])) (hR_amqvalue_Data : ∀ {code} {s_1} {most} {r}, R_amqvalue_Data code s_1 most = some r → Zq Tryz.prog G1 106 [.int .i64 code, .str s_1, .int .i64 most] (.tuple [.agg (Q0.cells r.1), .int .i64 r.2.1, .int .i64 r.2.2])) (hR_amqvalue_described : ∀ {s_0} {most} {r}, R_amqvalue_described s_0 most = some r → Zq Tryz.prog G1 125 [.str s_0, .int .i64 most] (.tuple [.agg (Q0.cells r.1), .int .i64 r.2.1, .int .i64 r.2.2])) (hR_amqvalue_sized : ∀ {c} {s_1} {most} {r}, R_amqvalue_sized c s_1 most = some r → Zq Tryz.prog G1 126 [.agg (Qd.cells c), .str s_1, .int .i64 most] (.tuple [.agg (Q0.cells r.1), .int .i64 r.2.1, .int .i64 r.2.2])) {N} {code} {s_1} {most} {r} (h : Vl R_amqvalue_Read R_amqvalue_Data R_amqvalue_described R_amqvalue_sized N code s_1 most = some r) : Zq Tryz.prog G1 106 [.int .i64 code, .str s_1, .int .i64 most] (.tuple [.agg (Q0.cells r.1), .int .i64 r.2.1, .int .i64 r.2.2]) := by
 refine Q4 Qyf ?_
 unfold Vl at h
 refine cP h Uf p1 fun v1 h => ?_
 apply iU h <;> intro h
 ·obtain rfl := Qb h; exact (Frz.tuple' (.cons q4n p2))
 ·refine cP h W0 p1 fun v4 h => ?_
  apply iU h <;> intro h
  ·obtain rfl := Qb h; exact (Frz.tuple' (.cons q4n p2))
  ·apply iU h <;> intro h
   ·refine cP h Q86 p2 fun v8 h => ?_
    obtain rfl := Qb h; exact (Frz.tuple' (.cons q4 p2))
   ·apply iU h <;> intro h
    ·obtain rfl := Qb h; exact (Frz.tuple' (.cons q4n p2))
    ·apply iU h <;> intro h
     ·refine cP h hR_amqvalue_described p2 fun v12 h => ?_
      obtain rfl := Qb h; exact (Frz.tuple' (.cons q4 p2))
     ·apply iU h <;> intro h
      ·obtain rfl := Qb h; exact (Frz.tuple' (.cons q4n p2))
      ·refine cP h hR_amqvalue_sized (.cons (Frz.agg' p5) p2) fun v15 h => ?_
       obtain rfl := Qb h; exact (Frz.tuple' (.cons q4 p2))
def Y4 (R_amqvalue_Read : (List UInt8) → Int → Option (Q0 × Int × Int)) (N : Nat) (most : Int) : Nat → Int → (List UInt8) → Int → Int → (List Q0) → Option (Q0 × Int × Int)
 | 0, _, _, _, _, _ => none
 | n + 1, s27, c28, c29, c30, l31 =>
  cond (Q5 .lss s27 2)
  ((Z1 N (⟨c28, c29, c30⟩ : Q3)).bind fun v33 =>
  (R_amqvalue_Read v33.1 (IntKind.wrap .i64 (most - 1))).bind fun v35 =>
  cond (Q5 .eql v35.2.2 0)
  ((Qn N v33.2 v35.2.1).bind fun v38 =>
  cond (Q5 .neq v35.2.2 0)
  (some ((⟨0, 0, [], []⟩ : Q0), 0, v35.2.2))
  (cond (Nat.ble ((l31.length + 1 + 4096) * 56) 17592186044416) (Y4 R_amqvalue_Read N most n (IntKind.wrap .i64 (s27 + 1)) v38.2.text v38.2.at' v38.2.err (l31 ++ [v35.1])) none))
  (cond (Q5 .neq v35.2.2 0)
  (some ((⟨0, 0, [], []⟩ : Q0), 0, v35.2.2))
  (cond (Nat.ble ((l31.length + 1 + 4096) * 56) 17592186044416) (Y4 R_amqvalue_Read N most n (IntKind.wrap .i64 (s27 + 1)) v33.2.text v33.2.at' v33.2.err (l31 ++ [v35.1])) none)))
  ((Qp N (⟨c28, c29, c30⟩ : Q3)).bind fun v44 =>
  some ((⟨25, 0, [], l31⟩ : Q0), v44.1, 0))
def Vb (R_amqvalue_Read : (List UInt8) → Int → Option (Q0 × Int × Int)) (R_amqvalue_Data : Int → (List UInt8) → Int → Option (Q0 × Int × Int)) (R_amqvalue_described : (List UInt8) → Int → Option (Q0 × Int × Int)) (R_amqvalue_sized : Qd → (List UInt8) → Int → Option (Q0 × Int × Int)) (N : Nat) (s_0 : List UInt8) (most : Int) : Option (Q0 × Int × Int) :=
 Y4 R_amqvalue_Read N most N 0 s_0 0 0 []
theorem Q28 {R_amqvalue_Read : (List UInt8) → Int → Option (Q0 × Int × Int)} {R_amqvalue_Data : Int → (List UInt8) → Int → Option (Q0 × Int × Int)} {R_amqvalue_described : (List UInt8) → Int → Option (Q0 × Int × Int)} {R_amqvalue_sized : Qd → (List UInt8) → Int → Option (Q0 × Int × Int)} (hR_amqvalue_Read : ∀ {s_0} {most} {r}, R_amqvalue_Read s_0 most = some r → Zq Tryz.prog G1 73 [.str s_0, .int .i64 most] (.tuple [.agg (Q0.cells r.1), .int .i64 r.2.1, .int .i64 r.2.2])) (hR_amqvalue_Data : ∀ {code} {s_1} {most} {r}, R_amqvalue_Data code s_1 most = some r → Zq Tryz.prog G1 106 [.int .i64 code, .str s_1, .int .i64 most] (.tuple [.agg (Q0.cells r.1), .int .i64 r.2.1, .int .i64 r.2.2])) (hR_amqvalue_described : ∀ {s_0} {most} {r}, R_amqvalue_described s_0 most = some r → Zq Tryz.prog G1 125 [.str s_0, .int .i64 most] (.tuple [.agg (Q0.cells r.1), .int .i64 r.2.1, .int .i64 r.2.2])) (hR_amqvalue_sized : ∀ {c} {s_1} {most} {r}, R_amqvalue_sized c s_1 most = some r → Zq Tryz.prog G1 126 [.agg (Qd.cells c), .str s_1, .int .i64 most] (.tuple [.agg (Q0.cells r.1), .int .i64 r.2.1, .int .i64 r.2.2])) {N} {s_0} {most} {r} (h : Vb R_amqvalue_Read R_amqvalue_Data R_amqvalue_described R_amqvalue_sized N s_0 most = some r) : Zq Tryz.prog G1 125 [.str s_0, .int .i64 most] (.tuple [.agg (Q0.cells r.1), .int .i64 r.2.1, .int .i64 r.2.2]) := by
 refine Q4 Qwq ?_
 unfold Vb at h
 refine Gt Qtw ?_
 refine lpC (τ := Int × (List UInt8) × Int × Int × (List Q0)) (fun ⟨s27, _, _, _, _⟩ => (a4 (.ptr 0 0 :: .any :: .any :: .ptr 2 0 :: a8 (iI s27 :: a16 (a4 (.any :: [])))) : List AV)) (fun ⟨_, c28, c29, c30, l31⟩ => (.cells (iI 25 :: iW 0 :: iS [] :: .slice 4 3 0 l31.length :: []) :: .cells (iS c28 :: iI c29 :: iI c30 :: []) :: .cells (.ptr 1 0 :: iI (IntKind.wrap .i64 (most - 1)) :: []) :: .cells (Wr Q0.cells l31) :: [] : List AObj)) (fun n0 ⟨s27, c28, c29, c30, l31⟩ => Y4 R_amqvalue_Read N most n0 s27 c28 c29 c30 l31) (0, s_0, 0, 0, []) h (fun i => i) ⟨(rV <| rE rfl <| rW <| rE rfl <| rX <| rE rfl <| rX <| rX <| rV <| rA <| rN), (hC rfl (rE rfl <| rE rfl <| rE rfl <| rS <| rN) <| hE rfl <| hE rfl <| hV lb <| hN), rfl, rfl, (roE rfl <| roE rfl <| roE rfl <| roE (Qh _ _ _) <| roN)⟩ fun n0 ⟨s27, c28, c29, c30, l31⟩ h => ?_
 simp only [Y4] at h
 apply iU h <;> intro h
 ·refine Gt Qtb ?_
  refine ifT (by unfold Q5; decide) ?_
  refine Qo ?_
  refine dM h Y0 rfl p0 fun v33 h => ?_
  refine cD h hR_amqvalue_Read p2 fun v35 h => ?_
  apply iU h <;> intro h
  ·refine cM h Z0 rfl p1 fun v38 h => ?_
   apply iU h <;> intro h
   ·obtain rfl := Qb h; exact (Frz.tuple' (.cons q4n p2))
   ·obtain ⟨hk41, h⟩ := Q85 h
    refine Q46 (U2 (c := Q0.cells) (e := 4) (fun _ => rfl) (by simp) hk41) ?_
    refine Jd (c := Q0.cells) [v35.1] rfl ?_
    show Exists _
    exact ⟨(n0, (IntKind.wrap .i64 (s27 + 1)), v38.2.text, v38.2.at', v38.2.err, (l31 ++ [v35.1])), h, Nat.lt_succ_self _, (rho [0, 1, 2, 9]), ⟨(rV <| rE rfl <| rW <| rE rfl <| rX <| rE rfl <| rX <| rX <| rV <| rA <| rN), (hC rfl (rE rfl <| rE rfl <| rE rfl <| rL (by simp) rfl <| rN) <| hE rfl <| hE rfl <| hO rfl <| hN), rfl, rfl, (roE rfl <| roE rfl <| roE rfl <| roE (Qh _ _ _) <| roN)⟩⟩
  ·apply iU h <;> intro h
   ·obtain rfl := Qb h; exact (Frz.tuple' (.cons q4n p2))
   ·obtain ⟨hk43, h⟩ := Q85 h
    refine Q46 (U2 (c := Q0.cells) (e := 4) (fun _ => rfl) (by simp) hk43) ?_
    refine Jd (c := Q0.cells) [v35.1] rfl ?_
    show Exists _
    exact ⟨(n0, (IntKind.wrap .i64 (s27 + 1)), v33.2.text, v33.2.at', v33.2.err, (l31 ++ [v35.1])), h, Nat.lt_succ_self _, (rho [0, 1, 2, 9]), ⟨(rV <| rE rfl <| rW <| rE rfl <| rX <| rE rfl <| rX <| rX <| rV <| rA <| rN), (hC rfl (rE rfl <| rE rfl <| rE rfl <| rL (by simp) rfl <| rN) <| hE rfl <| hE rfl <| hO rfl <| hN), rfl, rfl, (roE rfl <| roE rfl <| roE rfl <| roE (Qh _ _ _) <| roN)⟩⟩
 ·refine Qo ?_
  refine dM h Y1 rfl p0 fun v44 h => ?_
  obtain rfl := Qb h; exact (Frz.tuple' (.cons (Frz.agg' (.cons (.p _) (.cons (.p _) (.cons (.p _) (.cons (Q0.frz_own (l := l31) rfl trivial (by simp)) .nil))))) p2))
def Xk (R_amqvalue_Read : (List UInt8) → Int → Option (Q0 × Int × Int)) (R_amqvalue_Data : Int → (List UInt8) → Int → Option (Q0 × Int × Int)) (N : Nat) (c : Qd) (most : Int) (v9 : (List UInt8) × Q3) (v11 : (Int) × Q3) (v23 : (Int) × Q3) (v25 : Qd × Bool) : Nat → Int → (List UInt8) → Int → Int → (List Q0) → Option (Q0 × Int × Int)
 | 0, _, _, _, _, _ => none
 | n + 1, s86, c87, c88, c89, l90 =>
  cond (Q5 .lss s86 v11.1)
  (cond (Q5 .lss (IntKind.wrap .i64 v23.1) 0)
  ((Z1 N (⟨c87, c88, c89⟩ : Q3)).bind fun v93 =>
  (R_amqvalue_Read v93.1 (IntKind.wrap .i64 (most - 1))).bind fun v95 =>
  cond (Q5 .eql v95.2.2 0)
  ((Qn N v93.2 v95.2.1).bind fun v98 =>
  cond (Q5 .eql v95.2.2 3)
  (some ((⟨0, 0, [], []⟩ : Q0), 0, 5))
  (cond (Q5 .neq v95.2.2 0)
  (some ((⟨0, 0, [], []⟩ : Q0), 0, v95.2.2))
  (cond (Nat.ble ((l90.length + 1 + 4096) * 56) 17592186044416) (Xk R_amqvalue_Read R_amqvalue_Data N c most v9 v11 v23 v25 n (IntKind.wrap .u64 (s86 + 1)) v98.2.text v98.2.at' v98.2.err (l90 ++ [v95.1])) none)))
  (cond (Q5 .eql v95.2.2 3)
  (some ((⟨0, 0, [], []⟩ : Q0), 0, 5))
  (cond (Q5 .neq v95.2.2 0)
  (some ((⟨0, 0, [], []⟩ : Q0), 0, v95.2.2))
  (cond (Nat.ble ((l90.length + 1 + 4096) * 56) 17592186044416) (Xk R_amqvalue_Read R_amqvalue_Data N c most v9 v11 v23 v25 n (IntKind.wrap .u64 (s86 + 1)) v93.2.text v93.2.at' v93.2.err (l90 ++ [v95.1])) none))))
  ((Z1 N (⟨c87, c88, c89⟩ : Q3)).bind fun v106 =>
  (R_amqvalue_Data (IntKind.wrap .i64 v23.1) v106.1 (IntKind.wrap .i64 (most - 1))).bind fun v108 =>
  cond (Q5 .eql v108.2.2 0)
  ((Qn N v106.2 v108.2.1).bind fun v111 =>
  cond (Q5 .eql v108.2.2 3)
  (some ((⟨0, 0, [], []⟩ : Q0), 0, 5))
  (cond (Q5 .neq v108.2.2 0)
  (some ((⟨0, 0, [], []⟩ : Q0), 0, v108.2.2))
  (cond (Nat.ble ((l90.length + 1 + 4096) * 56) 17592186044416) (Xk R_amqvalue_Read R_amqvalue_Data N c most v9 v11 v23 v25 n (IntKind.wrap .u64 (s86 + 1)) v111.2.text v111.2.at' v111.2.err (l90 ++ [v108.1])) none)))
  (cond (Q5 .eql v108.2.2 3)
  (some ((⟨0, 0, [], []⟩ : Q0), 0, 5))
  (cond (Q5 .neq v108.2.2 0)
  (some ((⟨0, 0, [], []⟩ : Q0), 0, v108.2.2))
  (cond (Nat.ble ((l90.length + 1 + 4096) * 56) 17592186044416) (Xk R_amqvalue_Read R_amqvalue_Data N c most v9 v11 v23 v25 n (IntKind.wrap .u64 (s86 + 1)) v106.2.text v106.2.at' v106.2.err (l90 ++ [v108.1])) none)))))
  ((Z2 N (⟨c87, c88, c89⟩ : Q3)).bind fun v119 =>
  cond (Q5 .neq v119.1 0)
  (some ((⟨0, 0, [], []⟩ : Q0), 0, 5))
  ((W5 N (⟨c.Kind, (IntKind.wrap .u64 v25.1.Kind), [], l90⟩ : Q0)).bind fun v122 =>
  cond (Q5 .neq v122 0)
  (some ((⟨0, 0, [], []⟩ : Q0), 0, v122))
  ((Qp N v9.2).bind fun v125 =>
  some ((⟨c.Kind, (IntKind.wrap .u64 v25.1.Kind), [], l90⟩ : Q0), v125.1, 0))))
def Xl (R_amqvalue_Read : (List UInt8) → Int → Option (Q0 × Int × Int)) (N : Nat) (c : Qd) (most : Int) (v9 : (List UInt8) × Q3) (v11 : (Int) × Q3) : Nat → Int → (List UInt8) → Int → Int → (List Q0) → Option (Q0 × Int × Int)
 | 0, _, _, _, _, _ => none
 | n + 1, s158, Qnf, Qp3, Qpj, l162 =>
  cond (Q5 .lss s158 v11.1)
  ((Z1 N (⟨Qnf, Qp3, Qpj⟩ : Q3)).bind fun v164 =>
  (R_amqvalue_Read v164.1 (IntKind.wrap .i64 (most - 1))).bind fun v166 =>
  cond (Q5 .eql v166.2.2 0)
  ((Qn N v164.2 v166.2.1).bind fun v169 =>
  cond (Q5 .eql v166.2.2 3)
  (some ((⟨0, 0, [], []⟩ : Q0), 0, 5))
  (cond (Q5 .neq v166.2.2 0)
  (some ((⟨0, 0, [], []⟩ : Q0), 0, v166.2.2))
  (cond (Nat.ble ((l162.length + 1 + 4096) * 56) 17592186044416) (Xl R_amqvalue_Read N c most v9 v11 n (IntKind.wrap .u64 (s158 + 1)) v169.2.text v169.2.at' v169.2.err (l162 ++ [v166.1])) none)))
  (cond (Q5 .eql v166.2.2 3)
  (some ((⟨0, 0, [], []⟩ : Q0), 0, 5))
  (cond (Q5 .neq v166.2.2 0)
  (some ((⟨0, 0, [], []⟩ : Q0), 0, v166.2.2))
  (cond (Nat.ble ((l162.length + 1 + 4096) * 56) 17592186044416) (Xl R_amqvalue_Read N c most v9 v11 n (IntKind.wrap .u64 (s158 + 1)) v164.2.text v164.2.at' v164.2.err (l162 ++ [v166.1])) none))))
  ((Z2 N (⟨Qnf, Qp3, Qpj⟩ : Q3)).bind fun v177 =>
  cond (Q5 .neq v177.1 0)
  (some ((⟨0, 0, [], []⟩ : Q0), 0, 5))
  ((W5 N (⟨c.Kind, 0, [], l162⟩ : Q0)).bind fun v180 =>
  cond (Q5 .neq v180 0)
  (some ((⟨0, 0, [], []⟩ : Q0), 0, v180))
  ((Qp N v9.2).bind fun v183 =>
  some ((⟨c.Kind, 0, [], l162⟩ : Q0), v183.1, 0))))
def Zu (R_amqvalue_Read : (List UInt8) → Int → Option (Q0 × Int × Int)) (R_amqvalue_Data : Int → (List UInt8) → Int → Option (Q0 × Int × Int)) (N : Nat) (c : Qd) (most : Int) (v9 : (List UInt8) × Q3) (v11 : (Int) × Q3) (v189 : (Int) × Q3) (v191 : Qd × Bool) : Nat → Int → (List UInt8) → Int → Int → (List Q0) → Option (Q0 × Int × Int)
 | 0, _, _, _, _, _ => none
 | n + 1, s252, c253, c254, c255, l256 =>
  cond (Q5 .lss s252 v11.1)
  (cond (Q5 .lss (IntKind.wrap .i64 v189.1) 0)
  ((Z1 N (⟨c253, c254, c255⟩ : Q3)).bind fun v259 =>
  (R_amqvalue_Read v259.1 (IntKind.wrap .i64 (most - 1))).bind fun v261 =>
  cond (Q5 .eql v261.2.2 0)
  ((Qn N v259.2 v261.2.1).bind fun v264 =>
  cond (Q5 .eql v261.2.2 3)
  (some ((⟨0, 0, [], []⟩ : Q0), 0, 5))
  (cond (Q5 .neq v261.2.2 0)
  (some ((⟨0, 0, [], []⟩ : Q0), 0, v261.2.2))
  (cond (Nat.ble ((l256.length + 1 + 4096) * 56) 17592186044416) (Zu R_amqvalue_Read R_amqvalue_Data N c most v9 v11 v189 v191 n (IntKind.wrap .u64 (s252 + 1)) v264.2.text v264.2.at' v264.2.err (l256 ++ [v261.1])) none)))
  (cond (Q5 .eql v261.2.2 3)
  (some ((⟨0, 0, [], []⟩ : Q0), 0, 5))
  (cond (Q5 .neq v261.2.2 0)
  (some ((⟨0, 0, [], []⟩ : Q0), 0, v261.2.2))
  (cond (Nat.ble ((l256.length + 1 + 4096) * 56) 17592186044416) (Zu R_amqvalue_Read R_amqvalue_Data N c most v9 v11 v189 v191 n (IntKind.wrap .u64 (s252 + 1)) v259.2.text v259.2.at' v259.2.err (l256 ++ [v261.1])) none))))
  ((Z1 N (⟨c253, c254, c255⟩ : Q3)).bind fun v272 =>
  (R_amqvalue_Data (IntKind.wrap .i64 v189.1) v272.1 (IntKind.wrap .i64 (most - 1))).bind fun v274 =>
  cond (Q5 .eql v274.2.2 0)
  ((Qn N v272.2 v274.2.1).bind fun v277 =>
  cond (Q5 .eql v274.2.2 3)
  (some ((⟨0, 0, [], []⟩ : Q0), 0, 5))
  (cond (Q5 .neq v274.2.2 0)
  (some ((⟨0, 0, [], []⟩ : Q0), 0, v274.2.2))
  (cond (Nat.ble ((l256.length + 1 + 4096) * 56) 17592186044416) (Zu R_amqvalue_Read R_amqvalue_Data N c most v9 v11 v189 v191 n (IntKind.wrap .u64 (s252 + 1)) v277.2.text v277.2.at' v277.2.err (l256 ++ [v274.1])) none)))
  (cond (Q5 .eql v274.2.2 3)
  (some ((⟨0, 0, [], []⟩ : Q0), 0, 5))
  (cond (Q5 .neq v274.2.2 0)
  (some ((⟨0, 0, [], []⟩ : Q0), 0, v274.2.2))
  (cond (Nat.ble ((l256.length + 1 + 4096) * 56) 17592186044416) (Zu R_amqvalue_Read R_amqvalue_Data N c most v9 v11 v189 v191 n (IntKind.wrap .u64 (s252 + 1)) v272.2.text v272.2.at' v272.2.err (l256 ++ [v274.1])) none)))))
  ((Z2 N (⟨c253, c254, c255⟩ : Q3)).bind fun v285 =>
  cond (Q5 .neq v285.1 0)
  (some ((⟨0, 0, [], []⟩ : Q0), 0, 5))
  ((W5 N (⟨c.Kind, (IntKind.wrap .u64 v191.1.Kind), [], l256⟩ : Q0)).bind fun v288 =>
  cond (Q5 .neq v288 0)
  (some ((⟨0, 0, [], []⟩ : Q0), 0, v288))
  ((Qp N v9.2).bind fun v291 =>
  some ((⟨c.Kind, (IntKind.wrap .u64 v191.1.Kind), [], l256⟩ : Q0), v291.1, 0))))
def Xm (R_amqvalue_Read : (List UInt8) → Int → Option (Q0 × Int × Int)) (N : Nat) (c : Qd) (most : Int) (v9 : (List UInt8) × Q3) (v11 : (Int) × Q3) : Nat → Int → (List UInt8) → Int → Int → (List Q0) → Option (Q0 × Int × Int)
 | 0, _, _, _, _, _ => none
 | n + 1, s324, c325, c326, c327, l328 =>
  cond (Q5 .lss s324 v11.1)
  ((Z1 N (⟨c325, c326, c327⟩ : Q3)).bind fun v330 =>
  (R_amqvalue_Read v330.1 (IntKind.wrap .i64 (most - 1))).bind fun v332 =>
  cond (Q5 .eql v332.2.2 0)
  ((Qn N v330.2 v332.2.1).bind fun v335 =>
  cond (Q5 .eql v332.2.2 3)
  (some ((⟨0, 0, [], []⟩ : Q0), 0, 5))
  (cond (Q5 .neq v332.2.2 0)
  (some ((⟨0, 0, [], []⟩ : Q0), 0, v332.2.2))
  (cond (Nat.ble ((l328.length + 1 + 4096) * 56) 17592186044416) (Xm R_amqvalue_Read N c most v9 v11 n (IntKind.wrap .u64 (s324 + 1)) v335.2.text v335.2.at' v335.2.err (l328 ++ [v332.1])) none)))
  (cond (Q5 .eql v332.2.2 3)
  (some ((⟨0, 0, [], []⟩ : Q0), 0, 5))
  (cond (Q5 .neq v332.2.2 0)
  (some ((⟨0, 0, [], []⟩ : Q0), 0, v332.2.2))
  (cond (Nat.ble ((l328.length + 1 + 4096) * 56) 17592186044416) (Xm R_amqvalue_Read N c most v9 v11 n (IntKind.wrap .u64 (s324 + 1)) v330.2.text v330.2.at' v330.2.err (l328 ++ [v332.1])) none))))
  ((Z2 N (⟨c325, c326, c327⟩ : Q3)).bind fun v343 =>
  cond (Q5 .neq v343.1 0)
  (some ((⟨0, 0, [], []⟩ : Q0), 0, 5))
  ((W5 N (⟨c.Kind, 0, [], l328⟩ : Q0)).bind fun v346 =>
  cond (Q5 .neq v346 0)
  (some ((⟨0, 0, [], []⟩ : Q0), 0, v346))
  ((Qp N v9.2).bind fun v349 =>
  some ((⟨c.Kind, 0, [], l328⟩ : Q0), v349.1, 0))))
def Vu (R_amqvalue_Read : (List UInt8) → Int → Option (Q0 × Int × Int)) (R_amqvalue_Data : Int → (List UInt8) → Int → Option (Q0 × Int × Int)) (R_amqvalue_described : (List UInt8) → Int → Option (Q0 × Int × Int)) (R_amqvalue_sized : Qd → (List UInt8) → Int → Option (Q0 × Int × Int)) (N : Nat) (c : Qd) (s_1 : List UInt8) (most : Int) : Option (Q0 × Int × Int) :=
 (Qt N (⟨s_1, 0, 0⟩ : Q3) c.Width).bind fun v1 =>
 (Qj N v1.2).bind fun v3 =>
 cond (Q5 .neq v3.1 0)
 (some ((⟨0, 0, [], []⟩ : Q0), 0, 3))
 ((Z2 N v3.2).bind fun v6 =>
 cond (Q5 .gtr v1.1 (IntKind.wrap .u64 v6.1))
 (some ((⟨0, 0, [], []⟩ : Q0), 0, 3))
 ((Qn N v6.2 (IntKind.wrap .i64 v1.1)).bind fun v9 =>
 (Qt N (⟨v9.1, 0, 0⟩ : Q3) c.Width).bind fun v11 =>
 (Qj N v11.2).bind fun v13 =>
 cond (Q5 .neq v13.1 0)
 (some ((⟨0, 0, [], []⟩ : Q0), 0, 5))
 (cond (Q5 .gtr v11.1 1000)
 (some ((⟨0, 0, [], []⟩ : Q0), 0, 4))
 (cond (Q5 .eql c.Kind 23)
 (cond (Q5 .neq ((v11.1 : Int).tmod 2) 0)
 (some ((⟨0, 0, [], []⟩ : Q0), 0, 5))
 (cond (Q5 .eql c.Kind 24)
 ((Z2 N v13.2).bind fun v20 =>
 cond (Q5 .eql v20.1 0)
 (some ((⟨0, 0, [], []⟩ : Q0), 0, 5))
 ((Qt N v20.2 1).bind fun v23 =>
 (Z7 N (IntKind.wrap .i64 v23.1)).bind fun v25 =>
 cond (!v25.2)
 (some ((⟨0, 0, [], []⟩ : Q0), 0, 8))
 (cond (Q5 .eql (IntKind.wrap .i64 v23.1) 0)
 (some ((⟨0, 0, [], []⟩ : Q0), 0, 8))
 (Xk R_amqvalue_Read R_amqvalue_Data N c most v9 v11 v23 v25 N 0 v23.2.text v23.2.at' v23.2.err []))))
 (Xl R_amqvalue_Read N c most v9 v11 N 0 v13.2.text v13.2.at' v13.2.err [])))
 (cond (Q5 .eql c.Kind 24)
 ((Z2 N v13.2).bind fun v186 =>
 cond (Q5 .eql v186.1 0)
 (some ((⟨0, 0, [], []⟩ : Q0), 0, 5))
 ((Qt N v186.2 1).bind fun v189 =>
 (Z7 N (IntKind.wrap .i64 v189.1)).bind fun v191 =>
 cond (!v191.2)
 (some ((⟨0, 0, [], []⟩ : Q0), 0, 8))
 (cond (Q5 .eql (IntKind.wrap .i64 v189.1) 0)
 (some ((⟨0, 0, [], []⟩ : Q0), 0, 8))
 (Zu R_amqvalue_Read R_amqvalue_Data N c most v9 v11 v189 v191 N 0 v189.2.text v189.2.at' v189.2.err []))))
 (Xm R_amqvalue_Read N c most v9 v11 N 0 v13.2.text v13.2.at' v13.2.err []))))))
theorem Q4t {R_amqvalue_Read : (List UInt8) → Int → Option (Q0 × Int × Int)} {R_amqvalue_Data : Int → (List UInt8) → Int → Option (Q0 × Int × Int)} {R_amqvalue_described : (List UInt8) → Int → Option (Q0 × Int × Int)} {R_amqvalue_sized : Qd → (List UInt8) → Int → Option (Q0 × Int × Int)} (hR_amqvalue_Read : ∀ {s_0} {most} {r}, R_amqvalue_Read s_0 most = some r → Zq Tryz.prog G1 73 [.str s_0, .int .i64 most] (.tuple [.agg (Q0.cells r.1), .int .i64 r.2.1, .int .i64 r.2.2])) (hR_amqvalue_Data : ∀ {code} {s_1} {most} {r}, R_amqvalue_Data code s_1 most = some r → Zq Tryz.prog G1 106 [.int .i64 code, .str s_1, .int .i64 most] (.tuple [.agg (Q0.cells r.1), .int .i64 r.2.1, .int .i64 r.2.2])) (hR_amqvalue_described : ∀ {s_0} {most} {r}, R_amqvalue_described s_0 most = some r → Zq Tryz.prog G1 125 [.str s_0, .int .i64 most] (.tuple [.agg (Q0.cells r.1), .int .i64 r.2.1, .int .i64 r.2.2])) (hR_amqvalue_sized : ∀ {c} {s_1} {most} {r}, R_amqvalue_sized c s_1 most = some r → Zq Tryz.prog G1 126 [.agg (Qd.cells c), .str s_1, .int .i64 most] (.tuple [.agg (Q0.cells r.1), .int .i64 r.2.1, .int .i64 r.2.2])) {N} {c} {s_1} {most} {r} (h : Vu R_amqvalue_Read R_amqvalue_Data R_amqvalue_described R_amqvalue_sized N c s_1 most = some r) : Zq Tryz.prog G1 126 [.agg (Qd.cells c), .str s_1, .int .i64 most] (.tuple [.agg (Q0.cells r.1), .int .i64 r.2.1, .int .i64 r.2.2]) := by
 refine Q4 Qxq ?_
 unfold Vu at h
 refine Gt Qtw ?_
 refine cM h Yj rfl p1 fun v1 h => ?_
 refine cM h Zi rfl p0 fun v3 h => ?_
 apply iU h <;> intro h
 ·obtain rfl := Qb h; exact (Frz.tuple' (.cons q4n p2))
 ·refine cM h Zx rfl p0 fun v6 h => ?_
  apply iU h <;> intro h
  ·obtain rfl := Qb h; exact (Frz.tuple' (.cons q4n p2))
  ·refine cM h Z0 rfl p1 fun v9 h => ?_
   refine Gt Qtw ?_
   refine cM h Yj rfl p1 fun v11 h => ?_
   refine cM h Zi rfl p0 fun v13 h => ?_
   apply iU h <;> intro h
   ·obtain rfl := Qb h; exact (Frz.tuple' (.cons q4n p2))
   ·apply iU h <;> intro h
    ·obtain rfl := Qb h; exact (Frz.tuple' (.cons q4n p2))
    ·apply iU h <;> intro h
     ·apply iU h <;> intro h
      ·obtain rfl := Qb h; exact (Frz.tuple' (.cons q4n p2))
      ·apply iU h <;> intro h
       ·refine cM h Zx rfl p0 fun v20 h => ?_
        apply iU h <;> intro h
        ·obtain rfl := Qb h; exact (Frz.tuple' (.cons q4n p2))
        ·refine cM h Yj rfl p1 fun v23 h => ?_
         refine cP h W0 p1 fun v25 h => ?_
         apply iU h <;> intro h
         ·obtain rfl := Qb h; exact (Frz.tuple' (.cons q4n p2))
         ·apply iU h <;> intro h
          ·obtain rfl := Qb h; exact (Frz.tuple' (.cons q4n p2))
          ·refine lpC (τ := Int × (List UInt8) × Int × Int × (List Q0)) (fun ⟨s86, _, _, _, _⟩ => (a4 (a2 (.ptr 1 0 :: .any :: .any :: .ptr 2 0 :: .any :: .ptr 4 0 :: .any :: iI (IntKind.wrap .i64 v23.1) :: a16 (a16 (a16 (a16 (a16 (a2 (.any :: iW v11.1 :: iW s86 :: a16 (a16 (a2 ([]))))))))))) : List AV)) (fun ⟨_, c87, c88, c89, l90⟩ => (.cells (iI c.Code :: iI c.Kind :: iI c.Width :: .p (.bool c.Sized) :: .p (.bool c.Items) :: []) :: .cells (iI c.Kind :: iW (IntKind.wrap .u64 v25.1.Kind) :: iS [] :: .slice 4 6 0 l90.length :: []) :: .cells (iS v9.2.text :: iI v9.2.at' :: iI v9.2.err :: []) :: .cells (iS c87 :: iI c88 :: iI c89 :: []) :: .cells (.ptr 3 0 :: iI (IntKind.wrap .i64 (most - 1)) :: []) :: .cells (iI v25.1.Code :: iI v25.1.Kind :: iI v25.1.Width :: .p (.bool v25.1.Sized) :: .p (.bool v25.1.Items) :: []) :: .cells (Wr Q0.cells l90) :: [] : List AObj)) (fun n0 ⟨s86, c87, c88, c89, l90⟩ => Xk R_amqvalue_Read R_amqvalue_Data N c most v9 v11 v23 v25 n0 s86 c87 c88 c89 l90) (0, v23.2.text, v23.2.at', v23.2.err, []) h (fun i => i) ⟨(rV <| rW <| rE rfl <| rW <| rE rfl <| rA <| rE rfl <| rA <| rE rfl <| rX <| rX <| rX <| rX <| rX <| rX <| rX <| rX <| rX <| rX <| rW <| rA <| rE rfl <| rE rfl <| rX <| rX <| rX <| rX <| rW <| rN), (hE rfl <| hC rfl (rE rfl <| rE rfl <| rE rfl <| rS <| rN) <| hE rfl <| hE rfl <| hE rfl <| hE rfl <| hV lb <| hN), rfl, rfl, (roE rfl <| roE rfl <| roE rfl <| roE rfl <| roE rfl <| roE rfl <| roE (Qh _ _ _) <| roN)⟩ fun n0 ⟨s86, c87, c88, c89, l90⟩ h => ?_
           simp only [Xk] at h
           apply iU h <;> intro h
           ·refine Gt Qtb ?_
            apply iU h <;> intro h
            ·refine Qo ?_
             refine dM h Y0 rfl p0 fun v93 h => ?_
             refine cD h hR_amqvalue_Read p2 fun v95 h => ?_
             apply iU h <;> intro h
             ·refine cM h Z0 rfl p1 fun v98 h => ?_
              apply iU h <;> intro h
              ·refine ifT (by unfold Q5; decide) ?_
               obtain rfl := Qb h; exact (Frz.tuple' (.cons q4n p2))
              ·apply iU h <;> intro h
               ·obtain rfl := Qb h; exact (Frz.tuple' (.cons q4n p2))
               ·obtain ⟨hk102, h⟩ := Q85 h
                refine Q46 (U2 (c := Q0.cells) (e := 4) (fun _ => rfl) (by simp) hk102) ?_
                refine Jd (c := Q0.cells) [v95.1] rfl ?_
                show Exists _
                exact ⟨(n0, (IntKind.wrap .u64 (s86 + 1)), v98.2.text, v98.2.at', v98.2.err, (l90 ++ [v95.1])), h, Nat.lt_succ_self _, (rho [0, 1, 2, 3, 4, 5, 12]), ⟨(rV <| rW <| rE rfl <| rW <| rE rfl <| rA <| rE rfl <| rA <| rE rfl <| rX <| rX <| rX <| rX <| rX <| rX <| rX <| rX <| rX <| rX <| rW <| rA <| rE rfl <| rE rfl <| rX <| rX <| rX <| rX <| rW <| rN), (hE rfl <| hC rfl (rE rfl <| rE rfl <| rE rfl <| rL (by simp) rfl <| rN) <| hE rfl <| hE rfl <| hE rfl <| hE rfl <| hO rfl <| hN), rfl, rfl, (roE rfl <| roE rfl <| roE rfl <| roE rfl <| roE rfl <| roE rfl <| roE (Qh _ _ _) <| roN)⟩⟩
             ·apply iU h <;> intro h
              ·refine ifT (by unfold Q5; decide) ?_
               obtain rfl := Qb h; exact (Frz.tuple' (.cons q4n p2))
              ·apply iU h <;> intro h
               ·obtain rfl := Qb h; exact (Frz.tuple' (.cons q4n p2))
               ·obtain ⟨hk105, h⟩ := Q85 h
                refine Q46 (U2 (c := Q0.cells) (e := 4) (fun _ => rfl) (by simp) hk105) ?_
                refine Jd (c := Q0.cells) [v95.1] rfl ?_
                show Exists _
                exact ⟨(n0, (IntKind.wrap .u64 (s86 + 1)), v93.2.text, v93.2.at', v93.2.err, (l90 ++ [v95.1])), h, Nat.lt_succ_self _, (rho [0, 1, 2, 3, 4, 5, 12]), ⟨(rV <| rW <| rE rfl <| rW <| rE rfl <| rA <| rE rfl <| rA <| rE rfl <| rX <| rX <| rX <| rX <| rX <| rX <| rX <| rX <| rX <| rX <| rW <| rA <| rE rfl <| rE rfl <| rX <| rX <| rX <| rX <| rW <| rN), (hE rfl <| hC rfl (rE rfl <| rE rfl <| rE rfl <| rL (by simp) rfl <| rN) <| hE rfl <| hE rfl <| hE rfl <| hE rfl <| hO rfl <| hN), rfl, rfl, (roE rfl <| roE rfl <| roE rfl <| roE rfl <| roE rfl <| roE rfl <| roE (Qh _ _ _) <| roN)⟩⟩
            ·refine Qo ?_
             refine dM h Y0 rfl p0 fun v106 h => ?_
             refine cD h hR_amqvalue_Data p3 fun v108 h => ?_
             apply iU h <;> intro h
             ·refine cM h Z0 rfl p1 fun v111 h => ?_
              apply iU h <;> intro h
              ·refine ifT (by unfold Q5; decide) ?_
               obtain rfl := Qb h; exact (Frz.tuple' (.cons q4n p2))
              ·apply iU h <;> intro h
               ·obtain rfl := Qb h; exact (Frz.tuple' (.cons q4n p2))
               ·obtain ⟨hk115, h⟩ := Q85 h
                refine Q46 (U2 (c := Q0.cells) (e := 4) (fun _ => rfl) (by simp) hk115) ?_
                refine Jd (c := Q0.cells) [v108.1] rfl ?_
                show Exists _
                exact ⟨(n0, (IntKind.wrap .u64 (s86 + 1)), v111.2.text, v111.2.at', v111.2.err, (l90 ++ [v108.1])), h, Nat.lt_succ_self _, (rho [0, 1, 2, 3, 4, 5, 12]), ⟨(rV <| rW <| rE rfl <| rW <| rE rfl <| rA <| rE rfl <| rA <| rE rfl <| rX <| rX <| rX <| rX <| rX <| rX <| rX <| rX <| rX <| rX <| rW <| rA <| rE rfl <| rE rfl <| rX <| rX <| rX <| rX <| rW <| rN), (hE rfl <| hC rfl (rE rfl <| rE rfl <| rE rfl <| rL (by simp) rfl <| rN) <| hE rfl <| hE rfl <| hE rfl <| hE rfl <| hO rfl <| hN), rfl, rfl, (roE rfl <| roE rfl <| roE rfl <| roE rfl <| roE rfl <| roE rfl <| roE (Qh _ _ _) <| roN)⟩⟩
             ·apply iU h <;> intro h
              ·refine ifT (by unfold Q5; decide) ?_
               obtain rfl := Qb h; exact (Frz.tuple' (.cons q4n p2))
              ·apply iU h <;> intro h
               ·obtain rfl := Qb h; exact (Frz.tuple' (.cons q4n p2))
               ·obtain ⟨hk118, h⟩ := Q85 h
                refine Q46 (U2 (c := Q0.cells) (e := 4) (fun _ => rfl) (by simp) hk118) ?_
                refine Jd (c := Q0.cells) [v108.1] rfl ?_
                show Exists _
                exact ⟨(n0, (IntKind.wrap .u64 (s86 + 1)), v106.2.text, v106.2.at', v106.2.err, (l90 ++ [v108.1])), h, Nat.lt_succ_self _, (rho [0, 1, 2, 3, 4, 5, 12]), ⟨(rV <| rW <| rE rfl <| rW <| rE rfl <| rA <| rE rfl <| rA <| rE rfl <| rX <| rX <| rX <| rX <| rX <| rX <| rX <| rX <| rX <| rX <| rW <| rA <| rE rfl <| rE rfl <| rX <| rX <| rX <| rX <| rW <| rN), (hE rfl <| hC rfl (rE rfl <| rE rfl <| rE rfl <| rL (by simp) rfl <| rN) <| hE rfl <| hE rfl <| hE rfl <| hE rfl <| hO rfl <| hN), rfl, rfl, (roE rfl <| roE rfl <| roE rfl <| roE rfl <| roE rfl <| roE rfl <| roE (Qh _ _ _) <| roN)⟩⟩
           ·refine cM h Zx rfl p0 fun v119 h => ?_
            apply iU h <;> intro h
            ·obtain rfl := Qb h; exact (Frz.tuple' (.cons q4n p2))
            ·refine cK h Vz (.cons (Frz.agg' (.cons (.p _) (.cons (.p _) (.cons (.p _) (.cons (Q0.frz_own (l := l90) rfl trivial (by simp)) .nil))))) .nil) fun v122 h => ?_
             apply iU h <;> intro h
             ·obtain rfl := Qb h; exact (Frz.tuple' (.cons q4n p2))
             ·refine Qo ?_
              refine dM h Y1 rfl p0 fun v125 h => ?_
              obtain rfl := Qb h; exact (Frz.tuple' (.cons (Frz.agg' (.cons (.p _) (.cons (.p _) (.cons (.p _) (.cons (Q0.frz_own (l := l90) rfl trivial (by simp)) .nil))))) p2))
       ·refine lpC (τ := Int × (List UInt8) × Int × Int × (List Q0)) (fun ⟨s158, _, _, _, _⟩ => (a4 (a2 (.ptr 1 0 :: .any :: .any :: .ptr 2 0 :: .any :: .ptr 4 0 :: .any :: iI (-1) :: a16 (a16 (a16 (a16 (a16 (a2 (.any :: iW v11.1 :: iW s158 :: a16 (a16 (a2 ([]))))))))))) : List AV)) (fun ⟨_, Qnf, Qp3, Qpj, l162⟩ => (.cells (iI c.Code :: iI c.Kind :: iI c.Width :: .p (.bool c.Sized) :: .p (.bool c.Items) :: []) :: .cells (iI c.Kind :: iW 0 :: iS [] :: .slice 4 5 0 l162.length :: []) :: .cells (iS v9.2.text :: iI v9.2.at' :: iI v9.2.err :: []) :: .cells (iS Qnf :: iI Qp3 :: iI Qpj :: []) :: .cells (.ptr 3 0 :: iI (IntKind.wrap .i64 (most - 1)) :: []) :: .cells (Wr Q0.cells l162) :: [] : List AObj)) (fun n1 ⟨s158, Qnf, Qp3, Qpj, l162⟩ => Xl R_amqvalue_Read N c most v9 v11 n1 s158 Qnf Qp3 Qpj l162) (0, v13.2.text, v13.2.at', v13.2.err, []) h (fun i => i) ⟨(rV <| rW <| rE rfl <| rW <| rE rfl <| rA <| rE rfl <| rA <| rE rfl <| rX <| rX <| rX <| rX <| rX <| rX <| rX <| rX <| rX <| rX <| rW <| rA <| rE rfl <| rE rfl <| rX <| rX <| rX <| rX <| rW <| rN), (hE rfl <| hC rfl (rE rfl <| rE rfl <| rE rfl <| rS <| rN) <| hE rfl <| hE rfl <| hE rfl <| hV lb <| hN), rfl, rfl, (roE rfl <| roE rfl <| roE rfl <| roE rfl <| roE rfl <| roE (Qh _ _ _) <| roN)⟩ fun n1 ⟨s158, Qnf, Qp3, Qpj, l162⟩ h => ?_
        simp only [Xl] at h
        apply iU h <;> intro h
        ·refine Gt Qtb ?_
         refine ifT (by unfold Q5; decide) ?_
         refine Qo ?_
         refine dM h Y0 rfl p0 fun v164 h => ?_
         refine cD h hR_amqvalue_Read p2 fun v166 h => ?_
         apply iU h <;> intro h
         ·refine cM h Z0 rfl p1 fun v169 h => ?_
          apply iU h <;> intro h
          ·refine ifT (by unfold Q5; decide) ?_
           obtain rfl := Qb h; exact (Frz.tuple' (.cons q4n p2))
          ·apply iU h <;> intro h
           ·obtain rfl := Qb h; exact (Frz.tuple' (.cons q4n p2))
           ·obtain ⟨hk173, h⟩ := Q85 h
            refine Q46 (U2 (c := Q0.cells) (e := 4) (fun _ => rfl) (by simp) hk173) ?_
            refine Jd (c := Q0.cells) [v166.1] rfl ?_
            show Exists _
            exact ⟨(n1, (IntKind.wrap .u64 (s158 + 1)), v169.2.text, v169.2.at', v169.2.err, (l162 ++ [v166.1])), h, Nat.lt_succ_self _, (rho [0, 1, 2, 3, 4, 11]), ⟨(rV <| rW <| rE rfl <| rW <| rE rfl <| rA <| rE rfl <| rA <| rE rfl <| rX <| rX <| rX <| rX <| rX <| rX <| rX <| rX <| rX <| rX <| rW <| rA <| rE rfl <| rE rfl <| rX <| rX <| rX <| rX <| rW <| rN), (hE rfl <| hC rfl (rE rfl <| rE rfl <| rE rfl <| rL (by simp) rfl <| rN) <| hE rfl <| hE rfl <| hE rfl <| hO rfl <| hN), rfl, rfl, (roE rfl <| roE rfl <| roE rfl <| roE rfl <| roE rfl <| roE (Qh _ _ _) <| roN)⟩⟩
         ·apply iU h <;> intro h
          ·refine ifT (by unfold Q5; decide) ?_
           obtain rfl := Qb h; exact (Frz.tuple' (.cons q4n p2))
          ·apply iU h <;> intro h
           ·obtain rfl := Qb h; exact (Frz.tuple' (.cons q4n p2))
           ·obtain ⟨hk176, h⟩ := Q85 h
            refine Q46 (U2 (c := Q0.cells) (e := 4) (fun _ => rfl) (by simp) hk176) ?_
            refine Jd (c := Q0.cells) [v166.1] rfl ?_
            show Exists _
            exact ⟨(n1, (IntKind.wrap .u64 (s158 + 1)), v164.2.text, v164.2.at', v164.2.err, (l162 ++ [v166.1])), h, Nat.lt_succ_self _, (rho [0, 1, 2, 3, 4, 11]), ⟨(rV <| rW <| rE rfl <| rW <| rE rfl <| rA <| rE rfl <| rA <| rE rfl <| rX <| rX <| rX <| rX <| rX <| rX <| rX <| rX <| rX <| rX <| rW <| rA <| rE rfl <| rE rfl <| rX <| rX <| rX <| rX <| rW <| rN), (hE rfl <| hC rfl (rE rfl <| rE rfl <| rE rfl <| rL (by simp) rfl <| rN) <| hE rfl <| hE rfl <| hE rfl <| hO rfl <| hN), rfl, rfl, (roE rfl <| roE rfl <| roE rfl <| roE rfl <| roE rfl <| roE (Qh _ _ _) <| roN)⟩⟩
        ·refine cM h Zx rfl p0 fun v177 h => ?_
         apply iU h <;> intro h
         ·obtain rfl := Qb h; exact (Frz.tuple' (.cons q4n p2))
         ·refine cK h Vz (.cons (Frz.agg' (.cons (.p _) (.cons (.p _) (.cons (.p _) (.cons (Q0.frz_own (l := l162) rfl trivial (by simp)) .nil))))) .nil) fun v180 h => ?_
          apply iU h <;> intro h
          ·obtain rfl := Qb h; exact (Frz.tuple' (.cons q4n p2))
          ·refine Qo ?_
           refine dM h Y1 rfl p0 fun v183 h => ?_
           obtain rfl := Qb h; exact (Frz.tuple' (.cons (Frz.agg' (.cons (.p _) (.cons (.p _) (.cons (.p _) (.cons (Q0.frz_own (l := l162) rfl trivial (by simp)) .nil))))) p2))
     ·apply iU h <;> intro h
      ·refine cM h Zx rfl p0 fun v186 h => ?_
       apply iU h <;> intro h
       ·obtain rfl := Qb h; exact (Frz.tuple' (.cons q4n p2))
       ·refine cM h Yj rfl p1 fun v189 h => ?_
        refine cP h W0 p1 fun v191 h => ?_
        apply iU h <;> intro h
        ·obtain rfl := Qb h; exact (Frz.tuple' (.cons q4n p2))
        ·apply iU h <;> intro h
         ·obtain rfl := Qb h; exact (Frz.tuple' (.cons q4n p2))
         ·refine lpC (τ := Int × (List UInt8) × Int × Int × (List Q0)) (fun ⟨s252, _, _, _, _⟩ => (a4 (a2 (.ptr 1 0 :: .any :: .any :: .ptr 2 0 :: .any :: .ptr 4 0 :: .any :: iI (IntKind.wrap .i64 v189.1) :: a16 (a16 (a16 (a16 (a16 (a2 (.any :: iW v11.1 :: iW s252 :: a16 (a16 (a2 ([]))))))))))) : List AV)) (fun ⟨_, c253, c254, c255, l256⟩ => (.cells (iI c.Code :: iI c.Kind :: iI c.Width :: .p (.bool c.Sized) :: .p (.bool c.Items) :: []) :: .cells (iI c.Kind :: iW (IntKind.wrap .u64 v191.1.Kind) :: iS [] :: .slice 4 6 0 l256.length :: []) :: .cells (iS v9.2.text :: iI v9.2.at' :: iI v9.2.err :: []) :: .cells (iS c253 :: iI c254 :: iI c255 :: []) :: .cells (.ptr 3 0 :: iI (IntKind.wrap .i64 (most - 1)) :: []) :: .cells (iI v191.1.Code :: iI v191.1.Kind :: iI v191.1.Width :: .p (.bool v191.1.Sized) :: .p (.bool v191.1.Items) :: []) :: .cells (Wr Q0.cells l256) :: [] : List AObj)) (fun n2 ⟨s252, c253, c254, c255, l256⟩ => Zu R_amqvalue_Read R_amqvalue_Data N c most v9 v11 v189 v191 n2 s252 c253 c254 c255 l256) (0, v189.2.text, v189.2.at', v189.2.err, []) h (fun i => i) ⟨(rV <| rW <| rE rfl <| rW <| rE rfl <| rA <| rE rfl <| rA <| rE rfl <| rX <| rX <| rX <| rX <| rX <| rX <| rX <| rX <| rX <| rX <| rW <| rA <| rE rfl <| rE rfl <| rX <| rX <| rX <| rX <| rW <| rN), (hE rfl <| hC rfl (rE rfl <| rE rfl <| rE rfl <| rS <| rN) <| hE rfl <| hE rfl <| hE rfl <| hE rfl <| hV lb <| hN), rfl, rfl, (roE rfl <| roE rfl <| roE rfl <| roE rfl <| roE rfl <| roE rfl <| roE (Qh _ _ _) <| roN)⟩ fun n2 ⟨s252, c253, c254, c255, l256⟩ h => ?_
          simp only [Zu] at h
          apply iU h <;> intro h
          ·refine Gt Qtb ?_
           apply iU h <;> intro h
           ·refine Qo ?_
            refine dM h Y0 rfl p0 fun v259 h => ?_
            refine cD h hR_amqvalue_Read p2 fun v261 h => ?_
            apply iU h <;> intro h
            ·refine cM h Z0 rfl p1 fun v264 h => ?_
             apply iU h <;> intro h
             ·refine ifT (by unfold Q5; decide) ?_
              obtain rfl := Qb h; exact (Frz.tuple' (.cons q4n p2))
             ·apply iU h <;> intro h
              ·obtain rfl := Qb h; exact (Frz.tuple' (.cons q4n p2))
              ·obtain ⟨hk268, h⟩ := Q85 h
               refine Q46 (U2 (c := Q0.cells) (e := 4) (fun _ => rfl) (by simp) hk268) ?_
               refine Jd (c := Q0.cells) [v261.1] rfl ?_
               show Exists _
               exact ⟨(n2, (IntKind.wrap .u64 (s252 + 1)), v264.2.text, v264.2.at', v264.2.err, (l256 ++ [v261.1])), h, Nat.lt_succ_self _, (rho [0, 1, 2, 3, 4, 5, 12]), ⟨(rV <| rW <| rE rfl <| rW <| rE rfl <| rA <| rE rfl <| rA <| rE rfl <| rX <| rX <| rX <| rX <| rX <| rX <| rX <| rX <| rX <| rX <| rW <| rA <| rE rfl <| rE rfl <| rX <| rX <| rX <| rX <| rW <| rN), (hE rfl <| hC rfl (rE rfl <| rE rfl <| rE rfl <| rL (by simp) rfl <| rN) <| hE rfl <| hE rfl <| hE rfl <| hE rfl <| hO rfl <| hN), rfl, rfl, (roE rfl <| roE rfl <| roE rfl <| roE rfl <| roE rfl <| roE rfl <| roE (Qh _ _ _) <| roN)⟩⟩
            ·apply iU h <;> intro h
             ·refine ifT (by unfold Q5; decide) ?_
              obtain rfl := Qb h; exact (Frz.tuple' (.cons q4n p2))
             ·apply iU h <;> intro h
              ·obtain rfl := Qb h; exact (Frz.tuple' (.cons q4n p2))
              ·obtain ⟨hk271, h⟩ := Q85 h
               refine Q46 (U2 (c := Q0.cells) (e := 4) (fun _ => rfl) (by simp) hk271) ?_
               refine Jd (c := Q0.cells) [v261.1] rfl ?_
               show Exists _
               exact ⟨(n2, (IntKind.wrap .u64 (s252 + 1)), v259.2.text, v259.2.at', v259.2.err, (l256 ++ [v261.1])), h, Nat.lt_succ_self _, (rho [0, 1, 2, 3, 4, 5, 12]), ⟨(rV <| rW <| rE rfl <| rW <| rE rfl <| rA <| rE rfl <| rA <| rE rfl <| rX <| rX <| rX <| rX <| rX <| rX <| rX <| rX <| rX <| rX <| rW <| rA <| rE rfl <| rE rfl <| rX <| rX <| rX <| rX <| rW <| rN), (hE rfl <| hC rfl (rE rfl <| rE rfl <| rE rfl <| rL (by simp) rfl <| rN) <| hE rfl <| hE rfl <| hE rfl <| hE rfl <| hO rfl <| hN), rfl, rfl, (roE rfl <| roE rfl <| roE rfl <| roE rfl <| roE rfl <| roE rfl <| roE (Qh _ _ _) <| roN)⟩⟩
           ·refine Qo ?_
            refine dM h Y0 rfl p0 fun v272 h => ?_
            refine cD h hR_amqvalue_Data p3 fun v274 h => ?_
            apply iU h <;> intro h
            ·refine cM h Z0 rfl p1 fun v277 h => ?_
             apply iU h <;> intro h
             ·refine ifT (by unfold Q5; decide) ?_
              obtain rfl := Qb h; exact (Frz.tuple' (.cons q4n p2))
             ·apply iU h <;> intro h
              ·obtain rfl := Qb h; exact (Frz.tuple' (.cons q4n p2))
              ·obtain ⟨hk281, h⟩ := Q85 h
               refine Q46 (U2 (c := Q0.cells) (e := 4) (fun _ => rfl) (by simp) hk281) ?_
               refine Jd (c := Q0.cells) [v274.1] rfl ?_
               show Exists _
               exact ⟨(n2, (IntKind.wrap .u64 (s252 + 1)), v277.2.text, v277.2.at', v277.2.err, (l256 ++ [v274.1])), h, Nat.lt_succ_self _, (rho [0, 1, 2, 3, 4, 5, 12]), ⟨(rV <| rW <| rE rfl <| rW <| rE rfl <| rA <| rE rfl <| rA <| rE rfl <| rX <| rX <| rX <| rX <| rX <| rX <| rX <| rX <| rX <| rX <| rW <| rA <| rE rfl <| rE rfl <| rX <| rX <| rX <| rX <| rW <| rN), (hE rfl <| hC rfl (rE rfl <| rE rfl <| rE rfl <| rL (by simp) rfl <| rN) <| hE rfl <| hE rfl <| hE rfl <| hE rfl <| hO rfl <| hN), rfl, rfl, (roE rfl <| roE rfl <| roE rfl <| roE rfl <| roE rfl <| roE rfl <| roE (Qh _ _ _) <| roN)⟩⟩
            ·apply iU h <;> intro h
             ·refine ifT (by unfold Q5; decide) ?_
              obtain rfl := Qb h; exact (Frz.tuple' (.cons q4n p2))
             ·apply iU h <;> intro h
              ·obtain rfl := Qb h; exact (Frz.tuple' (.cons q4n p2))
              ·obtain ⟨hk284, h⟩ := Q85 h
               refine Q46 (U2 (c := Q0.cells) (e := 4) (fun _ => rfl) (by simp) hk284) ?_
               refine Jd (c := Q0.cells) [v274.1] rfl ?_
               show Exists _
               exact ⟨(n2, (IntKind.wrap .u64 (s252 + 1)), v272.2.text, v272.2.at', v272.2.err, (l256 ++ [v274.1])), h, Nat.lt_succ_self _, (rho [0, 1, 2, 3, 4, 5, 12]), ⟨(rV <| rW <| rE rfl <| rW <| rE rfl <| rA <| rE rfl <| rA <| rE rfl <| rX <| rX <| rX <| rX <| rX <| rX <| rX <| rX <| rX <| rX <| rW <| rA <| rE rfl <| rE rfl <| rX <| rX <| rX <| rX <| rW <| rN), (hE rfl <| hC rfl (rE rfl <| rE rfl <| rE rfl <| rL (by simp) rfl <| rN) <| hE rfl <| hE rfl <| hE rfl <| hE rfl <| hO rfl <| hN), rfl, rfl, (roE rfl <| roE rfl <| roE rfl <| roE rfl <| roE rfl <| roE rfl <| roE (Qh _ _ _) <| roN)⟩⟩
          ·refine cM h Zx rfl p0 fun v285 h => ?_
           apply iU h <;> intro h
           ·obtain rfl := Qb h; exact (Frz.tuple' (.cons q4n p2))
           ·refine cK h Vz (.cons (Frz.agg' (.cons (.p _) (.cons (.p _) (.cons (.p _) (.cons (Q0.frz_own (l := l256) rfl trivial (by simp)) .nil))))) .nil) fun v288 h => ?_
            apply iU h <;> intro h
            ·obtain rfl := Qb h; exact (Frz.tuple' (.cons q4n p2))
            ·refine Qo ?_
             refine dM h Y1 rfl p0 fun v291 h => ?_
             obtain rfl := Qb h; exact (Frz.tuple' (.cons (Frz.agg' (.cons (.p _) (.cons (.p _) (.cons (.p _) (.cons (Q0.frz_own (l := l256) rfl trivial (by simp)) .nil))))) p2))
      ·refine lpC (τ := Int × (List UInt8) × Int × Int × (List Q0)) (fun ⟨s324, _, _, _, _⟩ => (a4 (a2 (.ptr 1 0 :: .any :: .any :: .ptr 2 0 :: .any :: .ptr 4 0 :: .any :: iI (-1) :: a16 (a16 (a16 (a16 (a16 (a2 (.any :: iW v11.1 :: iW s324 :: a16 (a16 (a2 ([]))))))))))) : List AV)) (fun ⟨_, c325, c326, c327, l328⟩ => (.cells (iI c.Code :: iI c.Kind :: iI c.Width :: .p (.bool c.Sized) :: .p (.bool c.Items) :: []) :: .cells (iI c.Kind :: iW 0 :: iS [] :: .slice 4 5 0 l328.length :: []) :: .cells (iS v9.2.text :: iI v9.2.at' :: iI v9.2.err :: []) :: .cells (iS c325 :: iI c326 :: iI c327 :: []) :: .cells (.ptr 3 0 :: iI (IntKind.wrap .i64 (most - 1)) :: []) :: .cells (Wr Q0.cells l328) :: [] : List AObj)) (fun n3 ⟨s324, c325, c326, c327, l328⟩ => Xm R_amqvalue_Read N c most v9 v11 n3 s324 c325 c326 c327 l328) (0, v13.2.text, v13.2.at', v13.2.err, []) h (fun i => i) ⟨(rV <| rW <| rE rfl <| rW <| rE rfl <| rA <| rE rfl <| rA <| rE rfl <| rX <| rX <| rX <| rX <| rX <| rX <| rX <| rX <| rX <| rX <| rW <| rA <| rE rfl <| rE rfl <| rX <| rX <| rX <| rX <| rW <| rN), (hE rfl <| hC rfl (rE rfl <| rE rfl <| rE rfl <| rS <| rN) <| hE rfl <| hE rfl <| hE rfl <| hV lb <| hN), rfl, rfl, (roE rfl <| roE rfl <| roE rfl <| roE rfl <| roE rfl <| roE (Qh _ _ _) <| roN)⟩ fun n3 ⟨s324, c325, c326, c327, l328⟩ h => ?_
       simp only [Xm] at h
       apply iU h <;> intro h
       ·refine Gt Qtb ?_
        refine ifT (by unfold Q5; decide) ?_
        refine Qo ?_
        refine dM h Y0 rfl p0 fun v330 h => ?_
        refine cD h hR_amqvalue_Read p2 fun v332 h => ?_
        apply iU h <;> intro h
        ·refine cM h Z0 rfl p1 fun v335 h => ?_
         apply iU h <;> intro h
         ·refine ifT (by unfold Q5; decide) ?_
          obtain rfl := Qb h; exact (Frz.tuple' (.cons q4n p2))
         ·apply iU h <;> intro h
          ·obtain rfl := Qb h; exact (Frz.tuple' (.cons q4n p2))
          ·obtain ⟨hk339, h⟩ := Q85 h
           refine Q46 (U2 (c := Q0.cells) (e := 4) (fun _ => rfl) (by simp) hk339) ?_
           refine Jd (c := Q0.cells) [v332.1] rfl ?_
           show Exists _
           exact ⟨(n3, (IntKind.wrap .u64 (s324 + 1)), v335.2.text, v335.2.at', v335.2.err, (l328 ++ [v332.1])), h, Nat.lt_succ_self _, (rho [0, 1, 2, 3, 4, 11]), ⟨(rV <| rW <| rE rfl <| rW <| rE rfl <| rA <| rE rfl <| rA <| rE rfl <| rX <| rX <| rX <| rX <| rX <| rX <| rX <| rX <| rX <| rX <| rW <| rA <| rE rfl <| rE rfl <| rX <| rX <| rX <| rX <| rW <| rN), (hE rfl <| hC rfl (rE rfl <| rE rfl <| rE rfl <| rL (by simp) rfl <| rN) <| hE rfl <| hE rfl <| hE rfl <| hO rfl <| hN), rfl, rfl, (roE rfl <| roE rfl <| roE rfl <| roE rfl <| roE rfl <| roE (Qh _ _ _) <| roN)⟩⟩
        ·apply iU h <;> intro h
         ·refine ifT (by unfold Q5; decide) ?_
          obtain rfl := Qb h; exact (Frz.tuple' (.cons q4n p2))
         ·apply iU h <;> intro h
          ·obtain rfl := Qb h; exact (Frz.tuple' (.cons q4n p2))
          ·obtain ⟨hk342, h⟩ := Q85 h
           refine Q46 (U2 (c := Q0.cells) (e := 4) (fun _ => rfl) (by simp) hk342) ?_
           refine Jd (c := Q0.cells) [v332.1] rfl ?_
           show Exists _
           exact ⟨(n3, (IntKind.wrap .u64 (s324 + 1)), v330.2.text, v330.2.at', v330.2.err, (l328 ++ [v332.1])), h, Nat.lt_succ_self _, (rho [0, 1, 2, 3, 4, 11]), ⟨(rV <| rW <| rE rfl <| rW <| rE rfl <| rA <| rE rfl <| rA <| rE rfl <| rX <| rX <| rX <| rX <| rX <| rX <| rX <| rX <| rX <| rX <| rW <| rA <| rE rfl <| rE rfl <| rX <| rX <| rX <| rX <| rW <| rN), (hE rfl <| hC rfl (rE rfl <| rE rfl <| rE rfl <| rL (by simp) rfl <| rN) <| hE rfl <| hE rfl <| hE rfl <| hO rfl <| hN), rfl, rfl, (roE rfl <| roE rfl <| roE rfl <| roE rfl <| roE rfl <| roE (Qh _ _ _) <| roN)⟩⟩
       ·refine cM h Zx rfl p0 fun v343 h => ?_
        apply iU h <;> intro h
        ·obtain rfl := Qb h; exact (Frz.tuple' (.cons q4n p2))
        ·refine cK h Vz (.cons (Frz.agg' (.cons (.p _) (.cons (.p _) (.cons (.p _) (.cons (Q0.frz_own (l := l328) rfl trivial (by simp)) .nil))))) .nil) fun v346 h => ?_
         apply iU h <;> intro h
         ·obtain rfl := Qb h; exact (Frz.tuple' (.cons q4n p2))
         ·refine Qo ?_
          refine dM h Y1 rfl p0 fun v349 h => ?_
          obtain rfl := Qb h; exact (Frz.tuple' (.cons (Frz.agg' (.cons (.p _) (.cons (.p _) (.cons (.p _) (.cons (Q0.frz_own (l := l328) rfl trivial (by simp)) .nil))))) p2))
def Qg : Nat → ((List UInt8) → Int → Option (Q0 × Int × Int)) × (Int → (List UInt8) → Int → Option (Q0 × Int × Int)) × ((List UInt8) → Int → Option (Q0 × Int × Int)) × (Qd → (List UInt8) → Int → Option (Q0 × Int × Int))
 | 0 => (fun _ _ => none, fun _ _ _ => none, fun _ _ => none, fun _ _ _ => none)
 | N + 1 => (W1 ((Qg N).1) ((Qg N).2.1) ((Qg N).2.2.1) ((Qg N).2.2.2) N, Vl ((Qg N).1) ((Qg N).2.1) ((Qg N).2.2.1) ((Qg N).2.2.2) N, Vb ((Qg N).1) ((Qg N).2.1) ((Qg N).2.2.1) ((Qg N).2.2.2) N, Vu ((Qg N).1) ((Qg N).2.1) ((Qg N).2.2.1) ((Qg N).2.2.2) N)
def Zc (N : Nat) : (List UInt8) → Int → Option (Q0 × Int × Int) := (Qg N).1
def Xh (N : Nat) : Int → (List UInt8) → Int → Option (Q0 × Int × Int) := (Qg N).2.1
def X8 (N : Nat) : (List UInt8) → Int → Option (Q0 × Int × Int) := (Qg N).2.2.1
def V6 (N : Nat) : Qd → (List UInt8) → Int → Option (Q0 × Int × Int) := (Qg N).2.2.2
theorem Q64 : ∀ N, (∀ {s_0 : List UInt8} {most : Int} {r : Q0 × Int × Int}, (Qg N).1 s_0 most = some r → Zq Tryz.prog G1 73 [.str s_0, .int .i64 most] (.tuple [.agg (Q0.cells r.1), .int .i64 r.2.1, .int .i64 r.2.2])) ∧ (∀ {code : Int} {s_1 : List UInt8} {most : Int} {r : Q0 × Int × Int}, (Qg N).2.1 code s_1 most = some r → Zq Tryz.prog G1 106 [.int .i64 code, .str s_1, .int .i64 most] (.tuple [.agg (Q0.cells r.1), .int .i64 r.2.1, .int .i64 r.2.2])) ∧ (∀ {s_0 : List UInt8} {most : Int} {r : Q0 × Int × Int}, (Qg N).2.2.1 s_0 most = some r → Zq Tryz.prog G1 125 [.str s_0, .int .i64 most] (.tuple [.agg (Q0.cells r.1), .int .i64 r.2.1, .int .i64 r.2.2])) ∧ (∀ {c : Qd} {s_1 : List UInt8} {most : Int} {r : Q0 × Int × Int}, (Qg N).2.2.2 c s_1 most = some r → Zq Tryz.prog G1 126 [.agg (Qd.cells c), .str s_1, .int .i64 most] (.tuple [.agg (Q0.cells r.1), .int .i64 r.2.1, .int .i64 r.2.2])) := by
 intro N
 induction N with
 | zero => exact ⟨(fun h => by simp [Qg] at h), (fun h => by simp [Qg] at h), (fun h => by simp [Qg] at h), (fun h => by simp [Qg] at h)⟩
 | succ N ih => exact ⟨(fun h => Q6a (N := N) (fun h => ih.1 h) (fun h => ih.2.1 h) (fun h => ih.2.2.1 h) (fun h => ih.2.2.2 h) h), (fun h => Q5c (N := N) (fun h => ih.1 h) (fun h => ih.2.1 h) (fun h => ih.2.2.1 h) (fun h => ih.2.2.2 h) h), (fun h => Q28 (N := N) (fun h => ih.1 h) (fun h => ih.2.1 h) (fun h => ih.2.2.1 h) (fun h => ih.2.2.2 h) h), (fun h => Q4t (N := N) (fun h => ih.1 h) (fun h => ih.2.1 h) (fun h => ih.2.2.1 h) (fun h => ih.2.2.2 h) h)⟩
theorem Q66 {N : Nat} {s_0 : List UInt8} {most : Int} {r : Q0 × Int × Int} (h : Zc N s_0 most = some r) : Zq Tryz.prog G1 73 [.str s_0, .int .i64 most] (.tuple [.agg (Q0.cells r.1), .int .i64 r.2.1, .int .i64 r.2.2]) := (Q64 N).1 h
def Wa (N : Nat) (s_0 : List UInt8) (most : Int) : Option ((List UInt8) × Int) :=
 (Zc N s_0 most).bind fun v1 =>
 cond (Q5 .neq v1.2.2 0)
 (some ([], v1.2.2))
 (cond (Q5 .neq v1.2.1 (s_0.length : Int))
 (some ([], 5))
 ((W9 N v1.1 most).bind fun v5 =>
 some (v5.1, v5.2)))
theorem Q0l {N} {s_0} {most} {r} (h : Wa N s_0 most = some r) : Zq Tryz.prog G1 29 [.str s_0, .int .i64 most] (.tuple [.str r.1, .int .i64 r.2]) := by
 refine Q4 k29 ?_
 unfold Wa at h
 refine cP h Q66 p2 fun v1 h => ?_
 apply iU h <;> intro h
 ·obtain rfl := Qb h; exact u2
 ·apply iU h <;> intro h
  ·obtain rfl := Qb h; exact u2
  ·refine cP h Ue (.cons q4 p1) fun v5 h => ?_
   obtain rfl := Qb h; exact u2
def Qy (_N : Nat) (v100 : (List UInt8) × Int) (want118 : List UInt8) : Option (Bool) :=
 cond (Q5 .eql v100.2 0)
 (some (Q22 .eql v100.1 want118))
 (some false)
def Zd (N : Nat) (l : List Q0) : Nat → (List UInt8) → Int → Option (Bool)
 | 0, _, _ => none
 | n + 1, all84, i85 =>
  cond (Q5 .lss i85 ((Q0.rows l).length : Int))
  ((idx l i85).bind fun y87 =>
  (Yl N y87).bind fun v89 =>
  cond (!v89)
  (some true)
  ((idx l i85).bind fun y92 =>
  (W9 N y92 8).bind fun v94 =>
  cond (Q5 .neq v94.2 0)
  (some true)
  (cond (Nat.ble (all84.length + v94.1.length) 4611686018427387904) (Zd N l n (all84 ++ v94.1) (IntKind.wrap .i64 (i85 + 1))) none)))
  ((Jx N l).bind fun v98 =>
  (W9 N v98 9).bind fun v100 =>
  cond (Q5 .gtr ((Q0.rows l).length : Int) 0)
  ((Yr N (IntKind.wrap .u64 (IntKind.wrap .i64 ((all84.length : Int) + 1))) 1).bind fun v120 =>
  cond (Nat.ble ([192].length + v120.length) 4611686018427387904) ((Yr N (IntKind.wrap .u64 ((Q0.rows l).length : Int)) 1).bind fun v123 =>
  cond (Nat.ble (([192] ++ v120).length + v123.length) 4611686018427387904) (cond (Nat.ble ((([192] ++ v120) ++ v123).length + all84.length) 4611686018427387904) (cond (Q5 .gtr (all84.length : Int) 254)
  ((Yr N (IntKind.wrap .u64 (IntKind.wrap .i64 ((all84.length : Int) + 4))) 4).bind fun v128 =>
  cond (Nat.ble ([208].length + v128.length) 4611686018427387904) ((Yr N (IntKind.wrap .u64 ((Q0.rows l).length : Int)) 4).bind fun v131 =>
  cond (Nat.ble (([208] ++ v128).length + v131.length) 4611686018427387904) (cond (Nat.ble ((([208] ++ v128) ++ v131).length + all84.length) 4611686018427387904) (Qy N v100 ((([208] ++ v128) ++ v131) ++ all84)) none) none) none)
  (Qy N v100 ((([192] ++ v120) ++ v123) ++ all84))) none) none) none)
  (Qy N v100 [69]))
def Qm (N : Nat) (l : List Q0) : Option (Bool) :=
 Zd N l N [] 0
def Qz (_N : Nat) (k1 : Option (Bool)) (s53 : Bool) : Option (Bool) :=
 cond s53
 (some false)
 (k1)
def Qx (N : Nat) (k1 : Option (Bool)) (s_0 : List UInt8) (s40 : Bool) : Option (Bool) :=
 cond s40
 ((Wa N s_0 8).bind fun v46 =>
 (Wa N v46.1 8).bind fun v48 =>
 cond (Q5 .neq v46.2 0)
 (Qz N k1 true)
 (cond (Q5 .neq v48.2 0)
 (Qz N k1 true)
 (cond (Q5 .gtr (v46.1.length : Int) (s_0.length : Int))
 (Qz N k1 true)
 (Qz N k1 (Q22 .neq v46.1 v48.1)))))
 (k1)
def Zv (N : Nat) (s_0 : List UInt8) (l : List Q0) (s9 : Bool) : Option (Bool) :=
 cond s9
 (some true)
 ((Qs N s_0 8).bind fun v12 =>
 cond (Q5 .eql v12.2.2 0)
 (cond (Q5 .eql v12.2.1 (s_0.length : Int))
 ((Yl N v12.1).bind fun v43 =>
 Qx N (Qm N l) s_0 v43)
 (Qx N (Qm N l) s_0 false))
 (Qx N (Qm N l) s_0 false))
def Xi (N : Nat) (s_0 : List UInt8) (l : List Q0) : Option (Bool) :=
 (Vy N).bind fun v1 =>
 cond (!v1)
 (some false)
 (cond (Q5 .gtr (s_0.length : Int) 200)
 (Zv N s_0 l true)
 (Zv N s_0 l (Q5 .gtr ((Q0.rows l).length : Int) 6)))
theorem Gd {N} {s_0} {l} {r} (h : Xi N s_0 l = some r) : Zq Tryz.prog G1 6 [.str s_0, .slice 4 (Q0.rows l)] (.bool r) := by
 refine Q4 k6 ?_
 unfold Xi at h
 refine cP h Q1z p0 fun v1 h => ?_
 apply iU h <;> intro h
 ·cases h; exact (.p _)
 ·refine Qi5 ?_
  refine Vo (σ := Bool) (fun s9 => (iS s_0 :: .p (.slice 4 (Q0.rows l)) :: a16 (a8 (a2 (.p (.bool s9) :: a16 (a16 (a16 (a16 (a16 (a16 (a16 (a4 ([]))))))))))) : List AV)) (fun _ => ([] : List AObj)) (fun s9 => Zv N s_0 l s9 = some r) (fun _ _ => lb) ?_ ?_
  ·apply iU h <;> intro h
   ·show Exists _
    exact ⟨(true), h, (fun i => i), ⟨(rE rfl <| rE rfl <| rX <| rX <| rX <| rW <| rE rfl <| rX <| rX <| rX <| rX <| rX <| rX <| rX <| rX <| rX <| rX <| rX <| rX <| rX <| rX <| rV <| rN), (hN), rfl, rfl, (roN)⟩⟩
   ·show Exists _
    exact ⟨((Q5 .gtr ((Q0.rows l).length : Int) 6)), h, (fun i => i), ⟨(rE rfl <| rE rfl <| rX <| rX <| rX <| rW <| rE rfl <| rX <| rX <| rX <| rX <| rX <| rX <| rX <| rX <| rX <| rX <| rX <| rX <| rX <| rX <| rV <| rN), (hN), rfl, rfl, (roN)⟩⟩
  rintro s9 h
  dsimp only [Zv] at h
  apply iU h <;> intro h
  ·cases h; exact (.p _)
  ·refine cP h Q2q p2 fun v12 h => ?_
   refine Vo (σ := Unit) (fun _ => (.any :: .p (.slice 4 (Q0.rows l)) :: a16 (a16 (a16 (a16 (a16 (a16 (a16 (a16 (a8 (a4 (a2 (.any :: []))))))))))) : List AV)) (fun _ => (.cells (iI v12.1.Kind :: iW v12.1.N' :: iS v12.1.Text :: .p (.slice 4 (Q0.rows v12.1.Items)) :: []) :: [] : List AObj)) (fun ⟨⟩ => Qm N l = some r) (fun _ _ => lb) ?_ ?_
   ·refine Vo (σ := Bool) (fun s40 => (iS s_0 :: .p (.slice 4 (Q0.rows l)) :: a16 (a16 (a8 (a4 (.p (.bool s40) :: a16 (a16 (a16 (a16 (a16 (a16 (a2 ([]))))))))))) : List AV)) (fun _ => (.cells (iI v12.1.Kind :: iW v12.1.N' :: iS v12.1.Text :: .p (.slice 4 (Q0.rows v12.1.Items)) :: []) :: [] : List AObj)) (fun s40 => Qx N (Qm N l) s_0 s40 = some r) (fun _ _ => lb) ?_ ?_
    ·apply iU h <;> intro h
     ·apply iU h <;> intro h
      ·refine cP h Ux (.cons q4 .nil) fun v43 h => ?_
       show Exists _
       exact ⟨(v43), h, (fun i => i), ⟨(rE rfl <| rE rfl <| rX <| rX <| rX <| rX <| rX <| rV <| rE rfl <| rX <| rX <| rX <| rX <| rX <| rX <| rX <| rX <| rX <| rX <| rX <| rX <| rW <| rN), (hE rfl <| hN), rfl, rfl, (roE rfl <| roN)⟩⟩
      ·show Exists _
       exact ⟨(false), h, (fun i => i), ⟨(rE rfl <| rE rfl <| rX <| rX <| rX <| rX <| rX <| rV <| rE rfl <| rX <| rX <| rX <| rX <| rX <| rX <| rX <| rX <| rX <| rX <| rX <| rX <| rW <| rN), (hE rfl <| hN), rfl, rfl, (roE rfl <| roN)⟩⟩
     ·show Exists _
      exact ⟨(false), h, (fun i => i), ⟨(rE rfl <| rE rfl <| rX <| rX <| rX <| rX <| rX <| rV <| rE rfl <| rX <| rX <| rX <| rX <| rX <| rX <| rX <| rX <| rX <| rX <| rX <| rX <| rW <| rN), (hE rfl <| hN), rfl, rfl, (roE rfl <| roN)⟩⟩
    rintro s40 h
    dsimp only [Qx] at h
    apply iU h <;> intro h
    ·refine cP h Q0l p2 fun v46 h => ?_
     refine cP h Q0l p2 fun v48 h => ?_
     refine Vo (σ := Bool) (fun s53 => (.any :: .p (.slice 4 (Q0.rows l)) :: a16 (a16 (a16 (a16 (a8 (.p (.bool s53) :: a16 (a16 (a16 (a16 (a4 (a2 ([]))))))))))) : List AV)) (fun _ => (.cells (iI v12.1.Kind :: iW v12.1.N' :: iS v12.1.Text :: .p (.slice 4 (Q0.rows v12.1.Items)) :: []) :: [] : List AObj)) (fun s53 => Qz N (Qm N l) s53 = some r) (fun _ _ => lb) ?_ ?_
     ·apply iU h <;> intro h
      ·show Exists _
       exact ⟨(true), h, (fun i => i), ⟨(rA <| rE rfl <| rX <| rX <| rX <| rX <| rX <| rX <| rX <| rX <| rX <| rE rfl <| rX <| rX <| rX <| rX <| rX <| rX <| rX <| rX <| rV <| rW <| rN), (hE rfl <| hN), rfl, rfl, (roE rfl <| roN)⟩⟩
      ·apply iU h <;> intro h
       ·show Exists _
        exact ⟨(true), h, (fun i => i), ⟨(rA <| rE rfl <| rX <| rX <| rX <| rX <| rX <| rX <| rX <| rX <| rX <| rE rfl <| rX <| rX <| rX <| rX <| rX <| rX <| rX <| rX <| rV <| rW <| rN), (hE rfl <| hN), rfl, rfl, (roE rfl <| roN)⟩⟩
       ·apply iU h <;> intro h
        ·show Exists _
         exact ⟨(true), h, (fun i => i), ⟨(rA <| rE rfl <| rX <| rX <| rX <| rX <| rX <| rX <| rX <| rX <| rX <| rE rfl <| rX <| rX <| rX <| rX <| rX <| rX <| rX <| rX <| rV <| rW <| rN), (hE rfl <| hN), rfl, rfl, (roE rfl <| roN)⟩⟩
        ·show Exists _
         exact ⟨((Q22 .neq v46.1 v48.1)), h, (fun i => i), ⟨(rA <| rE rfl <| rX <| rX <| rX <| rX <| rX <| rX <| rX <| rX <| rX <| rE rfl <| rX <| rX <| rX <| rX <| rX <| rX <| rX <| rX <| rV <| rW <| rN), (hE rfl <| hN), rfl, rfl, (roE rfl <| roN)⟩⟩
     rintro s53 h
     dsimp only [Qz] at h
     apply iU h <;> intro h
     ·cases h; exact (.p _)
     ·show Exists _
      exact ⟨(), h, (fun i => i), ⟨(rA <| rE rfl <| rX <| rX <| rX <| rX <| rX <| rX <| rX <| rX <| rX <| rX <| rX <| rX <| rX <| rX <| rX <| rX <| rX <| rV <| rW <| rA <| rN), (hE rfl <| hN), rfl, rfl, (roE rfl <| roN)⟩⟩
    ·show Exists _
     exact ⟨(), h, (fun i => i), ⟨(rA <| rE rfl <| rX <| rX <| rX <| rX <| rX <| rX <| rX <| rX <| rX <| rX <| rX <| rX <| rX <| rX <| rX <| rX <| rX <| rV <| rW <| rA <| rN), (hE rfl <| hN), rfl, rfl, (roE rfl <| roN)⟩⟩
   rintro ⟨⟩ h
   dsimp only [Qm] at h
   refine lpC (τ := (List UInt8) × Int) (fun ⟨all84, i85⟩ => (.any :: .p (.slice 4 (Q0.rows l)) :: a8 (a2 (iS all84 :: iI i85 :: a16 (a16 (a16 (a16 (a16 (a16 (a16 (a16 (a2 (.any :: []))))))))))) : List AV)) (fun ⟨_, _⟩ => (.cells (iI v12.1.Kind :: iW v12.1.N' :: iS v12.1.Text :: .p (.slice 4 (Q0.rows v12.1.Items)) :: []) :: [] : List AObj)) (fun n4 ⟨all84, i85⟩ => Zd N l n4 all84 i85) ([], 0) h (fun i => i) ⟨(rA <| rE rfl <| rX <| rW <| rE rfl <| rE rfl <| rX <| rX <| rX <| rX <| rX <| rX <| rX <| rX <| rX <| rX <| rX <| rX <| rX <| rX <| rX <| rX <| rW <| rA <| rN), (hE rfl <| hN), rfl, rfl, (roE rfl <| roN)⟩ fun n4 ⟨all84, i85⟩ h => ?_
   simp only [Zd] at h
   apply iU h <;> intro h
   ·refine Q0.xR h fun y87 h => ?_
    refine cP h Ux (.cons q4 .nil) fun v89 h => ?_
    apply iU h <;> intro h
    ·cases h; exact (.p _)
    ·refine Q0.xR h fun y92 h => ?_
     refine cP h Ue (.cons q4 p1) fun v94 h => ?_
     apply iU h <;> intro h
     ·cases h; exact (.p _)
     ·refine kU h fun h => ?_
      show Exists _
      exact ⟨(n4, (all84 ++ v94.1), (IntKind.wrap .i64 (i85 + 1))), h, Nat.lt_succ_self _, (fun i => i), ⟨(rA <| rE rfl <| rX <| rW <| rE rfl <| rE rfl <| rX <| rX <| rX <| rX <| rX <| rX <| rX <| rX <| rX <| rX <| rX <| rX <| rX <| rX <| rX <| rX <| rW <| rA <| rN), (hE rfl <| hN), rfl, rfl, (roE rfl <| roN)⟩⟩
   ·refine cP h Q62 p1 fun v98 h => ?_
    refine cP h Ue p2 fun v100 h => ?_
    refine Vo (σ := (List UInt8)) (fun want118 => (a16 (iS v100.1 :: iI v100.2 :: iS want118 :: a16 (a16 (a16 (a16 (a16 (a16 (a16 (a8 (a4 (a2 ([]))))))))))) : List AV)) (fun _ => (.cells (iI v12.1.Kind :: iW v12.1.N' :: iS v12.1.Text :: .p (.slice 4 (Q0.rows v12.1.Items)) :: []) :: [] : List AObj)) (fun want118 => Qy N v100 want118 = some r) (fun _ _ => lb) ?_ ?_
    ·apply iU h <;> intro h
     ·refine cP h Vs p2 fun v120 h => ?_
      refine kU h fun h => ?_
      refine cP h Vs p2 fun v123 h => ?_
      refine kU h fun h => ?_
      refine kU h fun h => ?_
      apply iU h <;> intro h
      ·refine cP h Vs p2 fun v128 h => ?_
       refine kU h fun h => ?_
       refine cP h Vs p2 fun v131 h => ?_
       refine kU h fun h => ?_
       refine kU h fun h => ?_
       show Exists _
       exact ⟨(((([208] ++ v128) ++ v131) ++ all84)), h, (fun i => i), ⟨(rX <| rX <| rE rfl <| rE rfl <| rE rfl <| rX <| rX <| rX <| rX <| rX <| rX <| rX <| rX <| rX <| rX <| rX <| rX <| rX <| rX <| rX <| rV <| rW <| rN), (hE rfl <| hN), rfl, rfl, (roE rfl <| roN)⟩⟩
      ·show Exists _
       exact ⟨(((([192] ++ v120) ++ v123) ++ all84)), h, (fun i => i), ⟨(rX <| rX <| rE rfl <| rE rfl <| rE rfl <| rX <| rX <| rX <| rX <| rX <| rX <| rX <| rX <| rX <| rX <| rX <| rX <| rX <| rX <| rX <| rV <| rW <| rN), (hE rfl <| hN), rfl, rfl, (roE rfl <| roN)⟩⟩
     ·show Exists _
      exact ⟨([69]), h, (fun i => i), ⟨(rX <| rX <| rE rfl <| rE rfl <| rE rfl <| rX <| rX <| rX <| rX <| rX <| rX <| rX <| rX <| rX <| rX <| rX <| rX <| rX <| rX <| rX <| rV <| rW <| rN), (hE rfl <| hN), rfl, rfl, (roE rfl <| roN)⟩⟩
    rintro want118 h
    dsimp only [Qy] at h
    apply iU h <;> intro h
    ·cases h; exact (.p _)
    ·cases h; exact (.p _)
end
end
end Go.Av
