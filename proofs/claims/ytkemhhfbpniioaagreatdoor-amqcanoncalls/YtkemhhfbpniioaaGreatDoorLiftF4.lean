/- The law. Part of a proof of a given statement: for every input the law returns true and the arguments read as before; no condition beyond the given row. -/
import Derived.Test.YtkemhhfbpniioaaGreatDoorLiftF3
namespace Go.Av
noncomputable section
open Go.Proofs
set_option maxRecDepth 100000
set_option maxHeartbeats 4000000
attribute [local irreducible] Jf Ws Q9a Qa6 Q5 Q36 Qfw
section
def Wx (R_amqvalue_Read : (List UInt8) → Int → Option (Q0 × Int × Int)) (R_amqvalue_Data : Int → (List UInt8) → Int → Option (Q0 × Int × Int)) (R_amqvalue_described : (List UInt8) → Int → Option (Q0 × Int × Int)) (R_amqvalue_sized : Qf → (List UInt8) → Int → Option (Q0 × Int × Int)) (N : Nat) (s_0 : List UInt8) (most : Int) : Option (Q0 × Int × Int) :=
 (Xz N most).bind fun v1 =>
 cond (!v1)
 (some ((⟨0, 0, [], []⟩ : Q0), 0, 2))
 (cond (Q36 .eql s_0 [])
 (some ((⟨0, 0, [], []⟩ : Q0), 0, 3))
 ((idx s_0 0).bind fun b5 =>
 cond (Nat.ble 1 s_0.length && Nat.ble s_0.length s_0.length) ((R_amqvalue_Data (IntKind.wrap .i64 (b5.toNat : Int)) ((s_0.take s_0.length).drop 1) most).bind fun v8 =>
 cond (Q5 .neq v8.2.2 0)
 (some ((⟨0, 0, [], []⟩ : Q0), 0, v8.2.2))
 (some (v8.1, (IntKind.wrap .i64 (v8.2.1 + 1)), 0))) none))
theorem Q8b {R_amqvalue_Read : (List UInt8) → Int → Option (Q0 × Int × Int)} {R_amqvalue_Data : Int → (List UInt8) → Int → Option (Q0 × Int × Int)} {R_amqvalue_described : (List UInt8) → Int → Option (Q0 × Int × Int)} {R_amqvalue_sized : Qf → (List UInt8) → Int → Option (Q0 × Int × Int)} (hR_amqvalue_Read : ∀ {s_0} {most} {r}, R_amqvalue_Read s_0 most = some r → Qz Tryz.prog G1 73 [.str s_0, .int .i64 most] (.tuple [.agg (Q0.cells r.1), .int .i64 r.2.1, .int .i64 r.2.2])) (hR_amqvalue_Data : ∀ {code} {s_1} {most} {r}, R_amqvalue_Data code s_1 most = some r → Qz Tryz.prog G1 106 [.int .i64 code, .str s_1, .int .i64 most] (.tuple [.agg (Q0.cells r.1), .int .i64 r.2.1, .int .i64 r.2.2])) (hR_amqvalue_described : ∀ {s_0} {most} {r}, R_amqvalue_described s_0 most = some r → Qz Tryz.prog G1 125 [.str s_0, .int .i64 most] (.tuple [.agg (Q0.cells r.1), .int .i64 r.2.1, .int .i64 r.2.2])) (hR_amqvalue_sized : ∀ {c} {s_1} {most} {r}, R_amqvalue_sized c s_1 most = some r → Qz Tryz.prog G1 126 [.agg (Qf.cells c), .str s_1, .int .i64 most] (.tuple [.agg (Q0.cells r.1), .int .i64 r.2.1, .int .i64 r.2.2])) {N} {s_0} {most} {r} (h : Wx R_amqvalue_Read R_amqvalue_Data R_amqvalue_described R_amqvalue_sized N s_0 most = some r) : Qz Tryz.prog G1 73 [.str s_0, .int .i64 most] (.tuple [.agg (Q0.cells r.1), .int .i64 r.2.1, .int .i64 r.2.2]) := by
 refine Q4 k73 ?_
 unfold Wx at h
 refine cP h Jo p1 fun v1 h => ?_
 apply iU h <;> intro h
 ·obtain rfl := Qc h; exact (Frz.tuple' (.cons q4n p2))
 ·apply iU h <;> intro h
  ·obtain rfl := Qc h; exact (Frz.tuple' (.cons q4n p2))
  ·refine Qe ?_
   refine xB h fun b5 h => ?_
   refine kU h fun h => ?_
   refine cD h hR_amqvalue_Data p3 fun v8 h => ?_
   apply iU h <;> intro h
   ·obtain rfl := Qc h; exact (Frz.tuple' (.cons q4n p2))
   ·obtain rfl := Qc h; exact (Frz.tuple' (.cons q4 p2))
def Ur (R_amqvalue_Read : (List UInt8) → Int → Option (Q0 × Int × Int)) (R_amqvalue_Data : Int → (List UInt8) → Int → Option (Q0 × Int × Int)) (R_amqvalue_described : (List UInt8) → Int → Option (Q0 × Int × Int)) (R_amqvalue_sized : Qf → (List UInt8) → Int → Option (Q0 × Int × Int)) (N : Nat) (code : Int) (s_1 : List UInt8) (most : Int) : Option (Q0 × Int × Int) :=
 (Xz N most).bind fun v1 =>
 cond (!v1)
 (some ((⟨0, 0, [], []⟩ : Q0), 0, 2))
 ((Z7 N code).bind fun v4 =>
 cond (!v4.2)
 (some ((⟨0, 0, [], []⟩ : Q0), 0, 8))
 (cond (!v4.1.Items)
 ((Q0h N code s_1).bind fun v8 =>
 some (v8.1, v8.2.1, v8.2.2))
 (cond (Q5 .eql most 0)
 (some ((⟨0, 0, [], []⟩ : Q0), 0, 14))
 (cond (Q5 .eql v4.1.Kind 25)
 ((R_amqvalue_described s_1 most).bind fun v12 =>
 some (v12.1, v12.2.1, v12.2.2))
 (cond (!v4.1.Sized)
 (some ((⟨v4.1.Kind, 0, [], []⟩ : Q0), 0, 0))
 ((R_amqvalue_sized v4.1 s_1 most).bind fun v15 =>
 some (v15.1, v15.2.1, v15.2.2)))))))
theorem Q81 {R_amqvalue_Read : (List UInt8) → Int → Option (Q0 × Int × Int)} {R_amqvalue_Data : Int → (List UInt8) → Int → Option (Q0 × Int × Int)} {R_amqvalue_described : (List UInt8) → Int → Option (Q0 × Int × Int)} {R_amqvalue_sized : Qf → (List UInt8) → Int → Option (Q0 × Int × Int)} (hR_amqvalue_Read : ∀ {s_0} {most} {r}, R_amqvalue_Read s_0 most = some r → Qz Tryz.prog G1 73 [.str s_0, .int .i64 most] (.tuple [.agg (Q0.cells r.1), .int .i64 r.2.1, .int .i64 r.2.2])) (hR_amqvalue_Data : ∀ {code} {s_1} {most} {r}, R_amqvalue_Data code s_1 most = some r → Qz Tryz.prog G1 106 [.int .i64 code, .str s_1, .int .i64 most] (.tuple [.agg (Q0.cells r.1), .int .i64 r.2.1, .int .i64 r.2.2])) (hR_amqvalue_described : ∀ {s_0} {most} {r}, R_amqvalue_described s_0 most = some r → Qz Tryz.prog G1 125 [.str s_0, .int .i64 most] (.tuple [.agg (Q0.cells r.1), .int .i64 r.2.1, .int .i64 r.2.2])) (hR_amqvalue_sized : ∀ {c} {s_1} {most} {r}, R_amqvalue_sized c s_1 most = some r → Qz Tryz.prog G1 126 [.agg (Qf.cells c), .str s_1, .int .i64 most] (.tuple [.agg (Q0.cells r.1), .int .i64 r.2.1, .int .i64 r.2.2])) {N} {code} {s_1} {most} {r} (h : Ur R_amqvalue_Read R_amqvalue_Data R_amqvalue_described R_amqvalue_sized N code s_1 most = some r) : Qz Tryz.prog G1 106 [.int .i64 code, .str s_1, .int .i64 most] (.tuple [.agg (Q0.cells r.1), .int .i64 r.2.1, .int .i64 r.2.2]) := by
 refine Q4 Qyj ?_
 unfold Ur at h
 refine cP h Jo p1 fun v1 h => ?_
 apply iU h <;> intro h
 ·obtain rfl := Qc h; exact (Frz.tuple' (.cons q4n p2))
 ·refine cP h Wz p1 fun v4 h => ?_
  apply iU h <;> intro h
  ·obtain rfl := Qc h; exact (Frz.tuple' (.cons q4n p2))
  ·apply iU h <;> intro h
   ·refine cP h Qa8 p2 fun v8 h => ?_
    obtain rfl := Qc h; exact (Frz.tuple' (.cons q4 p2))
   ·apply iU h <;> intro h
    ·obtain rfl := Qc h; exact (Frz.tuple' (.cons q4n p2))
    ·apply iU h <;> intro h
     ·refine cP h hR_amqvalue_described p2 fun v12 h => ?_
      obtain rfl := Qc h; exact (Frz.tuple' (.cons q4 p2))
     ·apply iU h <;> intro h
      ·obtain rfl := Qc h; exact (Frz.tuple' (.cons q4n p2))
      ·refine cP h hR_amqvalue_sized (.cons (Frz.agg' p5) p2) fun v15 h => ?_
       obtain rfl := Qc h; exact (Frz.tuple' (.cons q4 p2))
def Yi (R_amqvalue_Read : (List UInt8) → Int → Option (Q0 × Int × Int)) (N : Nat) (most : Int) : Nat → Int → (List UInt8) → Int → Int → (List Q0) → Option (Q0 × Int × Int)
 | 0, _, _, _, _, _ => none
 | n + 1, s27, c28, c29, c30, l31 =>
  cond (Q5 .lss s27 2)
  ((Z2 N (⟨c28, c29, c30⟩ : Q3)).bind fun v33 =>
  (R_amqvalue_Read v33.1 (IntKind.wrap .i64 (most - 1))).bind fun v35 =>
  cond (Q5 .eql v35.2.2 0)
  ((Qp N v33.2 v35.2.1).bind fun v38 =>
  cond (Q5 .neq v35.2.2 0)
  (some ((⟨0, 0, [], []⟩ : Q0), 0, v35.2.2))
  (cond (Nat.ble ((l31.length + 1 + 4096) * 56) 17592186044416) (Yi R_amqvalue_Read N most n (IntKind.wrap .i64 (s27 + 1)) v38.2.text v38.2.at' v38.2.err (l31 ++ [v35.1])) none))
  (cond (Q5 .neq v35.2.2 0)
  (some ((⟨0, 0, [], []⟩ : Q0), 0, v35.2.2))
  (cond (Nat.ble ((l31.length + 1 + 4096) * 56) 17592186044416) (Yi R_amqvalue_Read N most n (IntKind.wrap .i64 (s27 + 1)) v33.2.text v33.2.at' v33.2.err (l31 ++ [v35.1])) none)))
  ((Qr N (⟨c28, c29, c30⟩ : Q3)).bind fun v44 =>
  some ((⟨25, 0, [], l31⟩ : Q0), v44.1, 0))
def Ue (R_amqvalue_Read : (List UInt8) → Int → Option (Q0 × Int × Int)) (R_amqvalue_Data : Int → (List UInt8) → Int → Option (Q0 × Int × Int)) (R_amqvalue_described : (List UInt8) → Int → Option (Q0 × Int × Int)) (R_amqvalue_sized : Qf → (List UInt8) → Int → Option (Q0 × Int × Int)) (N : Nat) (s_0 : List UInt8) (most : Int) : Option (Q0 × Int × Int) :=
 Yi R_amqvalue_Read N most N 0 s_0 0 0 []
theorem Q46 {R_amqvalue_Read : (List UInt8) → Int → Option (Q0 × Int × Int)} {R_amqvalue_Data : Int → (List UInt8) → Int → Option (Q0 × Int × Int)} {R_amqvalue_described : (List UInt8) → Int → Option (Q0 × Int × Int)} {R_amqvalue_sized : Qf → (List UInt8) → Int → Option (Q0 × Int × Int)} (hR_amqvalue_Read : ∀ {s_0} {most} {r}, R_amqvalue_Read s_0 most = some r → Qz Tryz.prog G1 73 [.str s_0, .int .i64 most] (.tuple [.agg (Q0.cells r.1), .int .i64 r.2.1, .int .i64 r.2.2])) (hR_amqvalue_Data : ∀ {code} {s_1} {most} {r}, R_amqvalue_Data code s_1 most = some r → Qz Tryz.prog G1 106 [.int .i64 code, .str s_1, .int .i64 most] (.tuple [.agg (Q0.cells r.1), .int .i64 r.2.1, .int .i64 r.2.2])) (hR_amqvalue_described : ∀ {s_0} {most} {r}, R_amqvalue_described s_0 most = some r → Qz Tryz.prog G1 125 [.str s_0, .int .i64 most] (.tuple [.agg (Q0.cells r.1), .int .i64 r.2.1, .int .i64 r.2.2])) (hR_amqvalue_sized : ∀ {c} {s_1} {most} {r}, R_amqvalue_sized c s_1 most = some r → Qz Tryz.prog G1 126 [.agg (Qf.cells c), .str s_1, .int .i64 most] (.tuple [.agg (Q0.cells r.1), .int .i64 r.2.1, .int .i64 r.2.2])) {N} {s_0} {most} {r} (h : Ue R_amqvalue_Read R_amqvalue_Data R_amqvalue_described R_amqvalue_sized N s_0 most = some r) : Qz Tryz.prog G1 125 [.str s_0, .int .i64 most] (.tuple [.agg (Q0.cells r.1), .int .i64 r.2.1, .int .i64 r.2.2]) := by
 refine Q4 Qzg ?_
 unfold Ue at h
 refine Q16 Qw1 ?_
 refine lpC (τ := Int × (List UInt8) × Int × Int × (List Q0)) (fun ⟨s27, _, _, _, _⟩ => (a4 (.ptr 0 0 :: .any :: .any :: .ptr 2 0 :: a8 (iI s27 :: a16 (a4 (.any :: [])))) : List AV)) (fun ⟨_, c28, c29, c30, l31⟩ => (.cells (iI 25 :: iW 0 :: iS [] :: .slice 4 3 0 l31.length :: []) :: .cells (iS c28 :: iI c29 :: iI c30 :: []) :: .cells (.ptr 1 0 :: iI (IntKind.wrap .i64 (most - 1)) :: []) :: .cells (Wt Q0.cells l31) :: [] : List AObj)) (fun n0 ⟨s27, c28, c29, c30, l31⟩ => Yi R_amqvalue_Read N most n0 s27 c28 c29 c30 l31) (0, s_0, 0, 0, []) h (fun i => i) ⟨(rV <| rE rfl <| rW <| rE rfl <| rX <| rE rfl <| rX <| rX <| rV <| rA <| rN), (hC rfl (rE rfl <| rE rfl <| rE rfl <| rS <| rN) <| hE rfl <| hE rfl <| hV lb <| hN), rfl, rfl, (roE rfl <| roE rfl <| roE rfl <| roE (Qd _ _ _) <| roN)⟩ fun n0 ⟨s27, c28, c29, c30, l31⟩ h => ?_
 simp only [Yi] at h
 apply iU h <;> intro h
 ·refine Q16 Qul ?_
  refine ifT (by unfold Q5; decide) ?_
  refine Qe ?_
  refine dM h Y0 rfl p0 fun v33 h => ?_
  refine cD h hR_amqvalue_Read p2 fun v35 h => ?_
  apply iU h <;> intro h
  ·refine cM h Z0 rfl p1 fun v38 h => ?_
   apply iU h <;> intro h
   ·obtain rfl := Qc h; exact (Frz.tuple' (.cons q4n p2))
   ·obtain ⟨hk41, h⟩ := Q7i h
    refine Q3q (Vr (c := Q0.cells) (e := 4) (fun _ => rfl) (by simp) hk41) ?_
    refine Jm (c := Q0.cells) [v35.1] rfl ?_
    show Exists _
    exact ⟨(n0, (IntKind.wrap .i64 (s27 + 1)), v38.2.text, v38.2.at', v38.2.err, (l31 ++ [v35.1])), h, Nat.lt_succ_self _, (rho [0, 1, 2, 9]), ⟨(rV <| rE rfl <| rW <| rE rfl <| rX <| rE rfl <| rX <| rX <| rV <| rA <| rN), (hC rfl (rE rfl <| rE rfl <| rE rfl <| rL (by simp) rfl <| rN) <| hE rfl <| hE rfl <| hO rfl <| hN), rfl, rfl, (roE rfl <| roE rfl <| roE rfl <| roE (Qd _ _ _) <| roN)⟩⟩
  ·apply iU h <;> intro h
   ·obtain rfl := Qc h; exact (Frz.tuple' (.cons q4n p2))
   ·obtain ⟨hk43, h⟩ := Q7i h
    refine Q3q (Vr (c := Q0.cells) (e := 4) (fun _ => rfl) (by simp) hk43) ?_
    refine Jm (c := Q0.cells) [v35.1] rfl ?_
    show Exists _
    exact ⟨(n0, (IntKind.wrap .i64 (s27 + 1)), v33.2.text, v33.2.at', v33.2.err, (l31 ++ [v35.1])), h, Nat.lt_succ_self _, (rho [0, 1, 2, 9]), ⟨(rV <| rE rfl <| rW <| rE rfl <| rX <| rE rfl <| rX <| rX <| rV <| rA <| rN), (hC rfl (rE rfl <| rE rfl <| rE rfl <| rL (by simp) rfl <| rN) <| hE rfl <| hE rfl <| hO rfl <| hN), rfl, rfl, (roE rfl <| roE rfl <| roE rfl <| roE (Qd _ _ _) <| roN)⟩⟩
 ·refine Qe ?_
  refine dM h Y7 rfl p0 fun v44 h => ?_
  obtain rfl := Qc h; exact (Frz.tuple' (.cons (Frz.agg' (.cons (.p _) (.cons (.p _) (.cons (.p _) (.cons (Q0.frz_own (l := l31) rfl trivial (by simp)) .nil))))) p2))
def We (R_amqvalue_Read : (List UInt8) → Int → Option (Q0 × Int × Int)) (R_amqvalue_Data : Int → (List UInt8) → Int → Option (Q0 × Int × Int)) (N : Nat) (c : Qf) (most : Int) (v9 : (List UInt8) × Q3) (v11 : (Int) × Q3) (v23 : (Int) × Q3) (v25 : Qf × Bool) : Nat → Int → (List UInt8) → Int → Int → (List Q0) → Option (Q0 × Int × Int)
 | 0, _, _, _, _, _ => none
 | n + 1, s86, c87, c88, c89, l90 =>
  cond (Q5 .lss s86 v11.1)
  (cond (Q5 .lss (IntKind.wrap .i64 v23.1) 0)
  ((Z2 N (⟨c87, c88, c89⟩ : Q3)).bind fun v93 =>
  (R_amqvalue_Read v93.1 (IntKind.wrap .i64 (most - 1))).bind fun v95 =>
  cond (Q5 .eql v95.2.2 0)
  ((Qp N v93.2 v95.2.1).bind fun v98 =>
  cond (Q5 .eql v95.2.2 3)
  (some ((⟨0, 0, [], []⟩ : Q0), 0, 5))
  (cond (Q5 .neq v95.2.2 0)
  (some ((⟨0, 0, [], []⟩ : Q0), 0, v95.2.2))
  (cond (Nat.ble ((l90.length + 1 + 4096) * 56) 17592186044416) (We R_amqvalue_Read R_amqvalue_Data N c most v9 v11 v23 v25 n (IntKind.wrap .u64 (s86 + 1)) v98.2.text v98.2.at' v98.2.err (l90 ++ [v95.1])) none)))
  (cond (Q5 .eql v95.2.2 3)
  (some ((⟨0, 0, [], []⟩ : Q0), 0, 5))
  (cond (Q5 .neq v95.2.2 0)
  (some ((⟨0, 0, [], []⟩ : Q0), 0, v95.2.2))
  (cond (Nat.ble ((l90.length + 1 + 4096) * 56) 17592186044416) (We R_amqvalue_Read R_amqvalue_Data N c most v9 v11 v23 v25 n (IntKind.wrap .u64 (s86 + 1)) v93.2.text v93.2.at' v93.2.err (l90 ++ [v95.1])) none))))
  ((Z2 N (⟨c87, c88, c89⟩ : Q3)).bind fun v106 =>
  (R_amqvalue_Data (IntKind.wrap .i64 v23.1) v106.1 (IntKind.wrap .i64 (most - 1))).bind fun v108 =>
  cond (Q5 .eql v108.2.2 0)
  ((Qp N v106.2 v108.2.1).bind fun v111 =>
  cond (Q5 .eql v108.2.2 3)
  (some ((⟨0, 0, [], []⟩ : Q0), 0, 5))
  (cond (Q5 .neq v108.2.2 0)
  (some ((⟨0, 0, [], []⟩ : Q0), 0, v108.2.2))
  (cond (Nat.ble ((l90.length + 1 + 4096) * 56) 17592186044416) (We R_amqvalue_Read R_amqvalue_Data N c most v9 v11 v23 v25 n (IntKind.wrap .u64 (s86 + 1)) v111.2.text v111.2.at' v111.2.err (l90 ++ [v108.1])) none)))
  (cond (Q5 .eql v108.2.2 3)
  (some ((⟨0, 0, [], []⟩ : Q0), 0, 5))
  (cond (Q5 .neq v108.2.2 0)
  (some ((⟨0, 0, [], []⟩ : Q0), 0, v108.2.2))
  (cond (Nat.ble ((l90.length + 1 + 4096) * 56) 17592186044416) (We R_amqvalue_Read R_amqvalue_Data N c most v9 v11 v23 v25 n (IntKind.wrap .u64 (s86 + 1)) v106.2.text v106.2.at' v106.2.err (l90 ++ [v108.1])) none)))))
  ((Z1 N (⟨c87, c88, c89⟩ : Q3)).bind fun v119 =>
  cond (Q5 .neq v119.1 0)
  (some ((⟨0, 0, [], []⟩ : Q0), 0, 5))
  ((Wy N (⟨c.Kind, (IntKind.wrap .u64 v25.1.Kind), [], l90⟩ : Q0)).bind fun v122 =>
  cond (Q5 .neq v122 0)
  (some ((⟨0, 0, [], []⟩ : Q0), 0, v122))
  ((Qr N v9.2).bind fun v125 =>
  some ((⟨c.Kind, (IntKind.wrap .u64 v25.1.Kind), [], l90⟩ : Q0), v125.1, 0))))
def Wf (R_amqvalue_Read : (List UInt8) → Int → Option (Q0 × Int × Int)) (N : Nat) (c : Qf) (most : Int) (v9 : (List UInt8) × Q3) (v11 : (Int) × Q3) : Nat → Int → (List UInt8) → Int → Int → (List Q0) → Option (Q0 × Int × Int)
 | 0, _, _, _, _, _ => none
 | n + 1, s158, Qpe, Qpn, Qr3, l162 =>
  cond (Q5 .lss s158 v11.1)
  ((Z2 N (⟨Qpe, Qpn, Qr3⟩ : Q3)).bind fun v164 =>
  (R_amqvalue_Read v164.1 (IntKind.wrap .i64 (most - 1))).bind fun v166 =>
  cond (Q5 .eql v166.2.2 0)
  ((Qp N v164.2 v166.2.1).bind fun v169 =>
  cond (Q5 .eql v166.2.2 3)
  (some ((⟨0, 0, [], []⟩ : Q0), 0, 5))
  (cond (Q5 .neq v166.2.2 0)
  (some ((⟨0, 0, [], []⟩ : Q0), 0, v166.2.2))
  (cond (Nat.ble ((l162.length + 1 + 4096) * 56) 17592186044416) (Wf R_amqvalue_Read N c most v9 v11 n (IntKind.wrap .u64 (s158 + 1)) v169.2.text v169.2.at' v169.2.err (l162 ++ [v166.1])) none)))
  (cond (Q5 .eql v166.2.2 3)
  (some ((⟨0, 0, [], []⟩ : Q0), 0, 5))
  (cond (Q5 .neq v166.2.2 0)
  (some ((⟨0, 0, [], []⟩ : Q0), 0, v166.2.2))
  (cond (Nat.ble ((l162.length + 1 + 4096) * 56) 17592186044416) (Wf R_amqvalue_Read N c most v9 v11 n (IntKind.wrap .u64 (s158 + 1)) v164.2.text v164.2.at' v164.2.err (l162 ++ [v166.1])) none))))
  ((Z1 N (⟨Qpe, Qpn, Qr3⟩ : Q3)).bind fun v177 =>
  cond (Q5 .neq v177.1 0)
  (some ((⟨0, 0, [], []⟩ : Q0), 0, 5))
  ((Wy N (⟨c.Kind, 0, [], l162⟩ : Q0)).bind fun v180 =>
  cond (Q5 .neq v180 0)
  (some ((⟨0, 0, [], []⟩ : Q0), 0, v180))
  ((Qr N v9.2).bind fun v183 =>
  some ((⟨c.Kind, 0, [], l162⟩ : Q0), v183.1, 0))))
def Zy (R_amqvalue_Read : (List UInt8) → Int → Option (Q0 × Int × Int)) (R_amqvalue_Data : Int → (List UInt8) → Int → Option (Q0 × Int × Int)) (N : Nat) (c : Qf) (most : Int) (v9 : (List UInt8) × Q3) (v11 : (Int) × Q3) (v189 : (Int) × Q3) (v191 : Qf × Bool) : Nat → Int → (List UInt8) → Int → Int → (List Q0) → Option (Q0 × Int × Int)
 | 0, _, _, _, _, _ => none
 | n + 1, s252, c253, c254, c255, l256 =>
  cond (Q5 .lss s252 v11.1)
  (cond (Q5 .lss (IntKind.wrap .i64 v189.1) 0)
  ((Z2 N (⟨c253, c254, c255⟩ : Q3)).bind fun v259 =>
  (R_amqvalue_Read v259.1 (IntKind.wrap .i64 (most - 1))).bind fun v261 =>
  cond (Q5 .eql v261.2.2 0)
  ((Qp N v259.2 v261.2.1).bind fun v264 =>
  cond (Q5 .eql v261.2.2 3)
  (some ((⟨0, 0, [], []⟩ : Q0), 0, 5))
  (cond (Q5 .neq v261.2.2 0)
  (some ((⟨0, 0, [], []⟩ : Q0), 0, v261.2.2))
  (cond (Nat.ble ((l256.length + 1 + 4096) * 56) 17592186044416) (Zy R_amqvalue_Read R_amqvalue_Data N c most v9 v11 v189 v191 n (IntKind.wrap .u64 (s252 + 1)) v264.2.text v264.2.at' v264.2.err (l256 ++ [v261.1])) none)))
  (cond (Q5 .eql v261.2.2 3)
  (some ((⟨0, 0, [], []⟩ : Q0), 0, 5))
  (cond (Q5 .neq v261.2.2 0)
  (some ((⟨0, 0, [], []⟩ : Q0), 0, v261.2.2))
  (cond (Nat.ble ((l256.length + 1 + 4096) * 56) 17592186044416) (Zy R_amqvalue_Read R_amqvalue_Data N c most v9 v11 v189 v191 n (IntKind.wrap .u64 (s252 + 1)) v259.2.text v259.2.at' v259.2.err (l256 ++ [v261.1])) none))))
  ((Z2 N (⟨c253, c254, c255⟩ : Q3)).bind fun v272 =>
  (R_amqvalue_Data (IntKind.wrap .i64 v189.1) v272.1 (IntKind.wrap .i64 (most - 1))).bind fun v274 =>
  cond (Q5 .eql v274.2.2 0)
  ((Qp N v272.2 v274.2.1).bind fun v277 =>
  cond (Q5 .eql v274.2.2 3)
  (some ((⟨0, 0, [], []⟩ : Q0), 0, 5))
  (cond (Q5 .neq v274.2.2 0)
  (some ((⟨0, 0, [], []⟩ : Q0), 0, v274.2.2))
  (cond (Nat.ble ((l256.length + 1 + 4096) * 56) 17592186044416) (Zy R_amqvalue_Read R_amqvalue_Data N c most v9 v11 v189 v191 n (IntKind.wrap .u64 (s252 + 1)) v277.2.text v277.2.at' v277.2.err (l256 ++ [v274.1])) none)))
  (cond (Q5 .eql v274.2.2 3)
  (some ((⟨0, 0, [], []⟩ : Q0), 0, 5))
  (cond (Q5 .neq v274.2.2 0)
  (some ((⟨0, 0, [], []⟩ : Q0), 0, v274.2.2))
  (cond (Nat.ble ((l256.length + 1 + 4096) * 56) 17592186044416) (Zy R_amqvalue_Read R_amqvalue_Data N c most v9 v11 v189 v191 n (IntKind.wrap .u64 (s252 + 1)) v272.2.text v272.2.at' v272.2.err (l256 ++ [v274.1])) none)))))
  ((Z1 N (⟨c253, c254, c255⟩ : Q3)).bind fun v285 =>
  cond (Q5 .neq v285.1 0)
  (some ((⟨0, 0, [], []⟩ : Q0), 0, 5))
  ((Wy N (⟨c.Kind, (IntKind.wrap .u64 v191.1.Kind), [], l256⟩ : Q0)).bind fun v288 =>
  cond (Q5 .neq v288 0)
  (some ((⟨0, 0, [], []⟩ : Q0), 0, v288))
  ((Qr N v9.2).bind fun v291 =>
  some ((⟨c.Kind, (IntKind.wrap .u64 v191.1.Kind), [], l256⟩ : Q0), v291.1, 0))))
def Wg (R_amqvalue_Read : (List UInt8) → Int → Option (Q0 × Int × Int)) (N : Nat) (c : Qf) (most : Int) (v9 : (List UInt8) × Q3) (v11 : (Int) × Q3) : Nat → Int → (List UInt8) → Int → Int → (List Q0) → Option (Q0 × Int × Int)
 | 0, _, _, _, _, _ => none
 | n + 1, s324, c325, c326, c327, l328 =>
  cond (Q5 .lss s324 v11.1)
  ((Z2 N (⟨c325, c326, c327⟩ : Q3)).bind fun v330 =>
  (R_amqvalue_Read v330.1 (IntKind.wrap .i64 (most - 1))).bind fun v332 =>
  cond (Q5 .eql v332.2.2 0)
  ((Qp N v330.2 v332.2.1).bind fun v335 =>
  cond (Q5 .eql v332.2.2 3)
  (some ((⟨0, 0, [], []⟩ : Q0), 0, 5))
  (cond (Q5 .neq v332.2.2 0)
  (some ((⟨0, 0, [], []⟩ : Q0), 0, v332.2.2))
  (cond (Nat.ble ((l328.length + 1 + 4096) * 56) 17592186044416) (Wg R_amqvalue_Read N c most v9 v11 n (IntKind.wrap .u64 (s324 + 1)) v335.2.text v335.2.at' v335.2.err (l328 ++ [v332.1])) none)))
  (cond (Q5 .eql v332.2.2 3)
  (some ((⟨0, 0, [], []⟩ : Q0), 0, 5))
  (cond (Q5 .neq v332.2.2 0)
  (some ((⟨0, 0, [], []⟩ : Q0), 0, v332.2.2))
  (cond (Nat.ble ((l328.length + 1 + 4096) * 56) 17592186044416) (Wg R_amqvalue_Read N c most v9 v11 n (IntKind.wrap .u64 (s324 + 1)) v330.2.text v330.2.at' v330.2.err (l328 ++ [v332.1])) none))))
  ((Z1 N (⟨c325, c326, c327⟩ : Q3)).bind fun v343 =>
  cond (Q5 .neq v343.1 0)
  (some ((⟨0, 0, [], []⟩ : Q0), 0, 5))
  ((Wy N (⟨c.Kind, 0, [], l328⟩ : Q0)).bind fun v346 =>
  cond (Q5 .neq v346 0)
  (some ((⟨0, 0, [], []⟩ : Q0), 0, v346))
  ((Qr N v9.2).bind fun v349 =>
  some ((⟨c.Kind, 0, [], l328⟩ : Q0), v349.1, 0))))
def Uz (R_amqvalue_Read : (List UInt8) → Int → Option (Q0 × Int × Int)) (R_amqvalue_Data : Int → (List UInt8) → Int → Option (Q0 × Int × Int)) (R_amqvalue_described : (List UInt8) → Int → Option (Q0 × Int × Int)) (R_amqvalue_sized : Qf → (List UInt8) → Int → Option (Q0 × Int × Int)) (N : Nat) (c : Qf) (s_1 : List UInt8) (most : Int) : Option (Q0 × Int × Int) :=
 (Qx N (⟨s_1, 0, 0⟩ : Q3) c.Width).bind fun v1 =>
 (Ql N v1.2).bind fun v3 =>
 cond (Q5 .neq v3.1 0)
 (some ((⟨0, 0, [], []⟩ : Q0), 0, 3))
 ((Z1 N v3.2).bind fun v6 =>
 cond (Q5 .gtr v1.1 (IntKind.wrap .u64 v6.1))
 (some ((⟨0, 0, [], []⟩ : Q0), 0, 3))
 ((Qp N v6.2 (IntKind.wrap .i64 v1.1)).bind fun v9 =>
 (Qx N (⟨v9.1, 0, 0⟩ : Q3) c.Width).bind fun v11 =>
 (Ql N v11.2).bind fun v13 =>
 cond (Q5 .neq v13.1 0)
 (some ((⟨0, 0, [], []⟩ : Q0), 0, 5))
 (cond (Q5 .gtr v11.1 1000)
 (some ((⟨0, 0, [], []⟩ : Q0), 0, 4))
 (cond (Q5 .eql c.Kind 23)
 (cond (Q5 .neq ((v11.1 : Int).tmod 2) 0)
 (some ((⟨0, 0, [], []⟩ : Q0), 0, 5))
 (cond (Q5 .eql c.Kind 24)
 ((Z1 N v13.2).bind fun v20 =>
 cond (Q5 .eql v20.1 0)
 (some ((⟨0, 0, [], []⟩ : Q0), 0, 5))
 ((Qx N v20.2 1).bind fun v23 =>
 (Z7 N (IntKind.wrap .i64 v23.1)).bind fun v25 =>
 cond (!v25.2)
 (some ((⟨0, 0, [], []⟩ : Q0), 0, 8))
 (cond (Q5 .eql (IntKind.wrap .i64 v23.1) 0)
 (some ((⟨0, 0, [], []⟩ : Q0), 0, 8))
 (We R_amqvalue_Read R_amqvalue_Data N c most v9 v11 v23 v25 N 0 v23.2.text v23.2.at' v23.2.err []))))
 (Wf R_amqvalue_Read N c most v9 v11 N 0 v13.2.text v13.2.at' v13.2.err [])))
 (cond (Q5 .eql c.Kind 24)
 ((Z1 N v13.2).bind fun v186 =>
 cond (Q5 .eql v186.1 0)
 (some ((⟨0, 0, [], []⟩ : Q0), 0, 5))
 ((Qx N v186.2 1).bind fun v189 =>
 (Z7 N (IntKind.wrap .i64 v189.1)).bind fun v191 =>
 cond (!v191.2)
 (some ((⟨0, 0, [], []⟩ : Q0), 0, 8))
 (cond (Q5 .eql (IntKind.wrap .i64 v189.1) 0)
 (some ((⟨0, 0, [], []⟩ : Q0), 0, 8))
 (Zy R_amqvalue_Read R_amqvalue_Data N c most v9 v11 v189 v191 N 0 v189.2.text v189.2.at' v189.2.err []))))
 (Wg R_amqvalue_Read N c most v9 v11 N 0 v13.2.text v13.2.at' v13.2.err []))))))
theorem Q7d {R_amqvalue_Read : (List UInt8) → Int → Option (Q0 × Int × Int)} {R_amqvalue_Data : Int → (List UInt8) → Int → Option (Q0 × Int × Int)} {R_amqvalue_described : (List UInt8) → Int → Option (Q0 × Int × Int)} {R_amqvalue_sized : Qf → (List UInt8) → Int → Option (Q0 × Int × Int)} (hR_amqvalue_Read : ∀ {s_0} {most} {r}, R_amqvalue_Read s_0 most = some r → Qz Tryz.prog G1 73 [.str s_0, .int .i64 most] (.tuple [.agg (Q0.cells r.1), .int .i64 r.2.1, .int .i64 r.2.2])) (hR_amqvalue_Data : ∀ {code} {s_1} {most} {r}, R_amqvalue_Data code s_1 most = some r → Qz Tryz.prog G1 106 [.int .i64 code, .str s_1, .int .i64 most] (.tuple [.agg (Q0.cells r.1), .int .i64 r.2.1, .int .i64 r.2.2])) (hR_amqvalue_described : ∀ {s_0} {most} {r}, R_amqvalue_described s_0 most = some r → Qz Tryz.prog G1 125 [.str s_0, .int .i64 most] (.tuple [.agg (Q0.cells r.1), .int .i64 r.2.1, .int .i64 r.2.2])) (hR_amqvalue_sized : ∀ {c} {s_1} {most} {r}, R_amqvalue_sized c s_1 most = some r → Qz Tryz.prog G1 126 [.agg (Qf.cells c), .str s_1, .int .i64 most] (.tuple [.agg (Q0.cells r.1), .int .i64 r.2.1, .int .i64 r.2.2])) {N} {c} {s_1} {most} {r} (h : Uz R_amqvalue_Read R_amqvalue_Data R_amqvalue_described R_amqvalue_sized N c s_1 most = some r) : Qz Tryz.prog G1 126 [.agg (Qf.cells c), .str s_1, .int .i64 most] (.tuple [.agg (Q0.cells r.1), .int .i64 r.2.1, .int .i64 r.2.2]) := by
 refine Q4 Qz4 ?_
 unfold Uz at h
 refine Q16 Qw1 ?_
 refine cM h X0 rfl p1 fun v1 h => ?_
 refine cM h Zf rfl p0 fun v3 h => ?_
 apply iU h <;> intro h
 ·obtain rfl := Qc h; exact (Frz.tuple' (.cons q4n p2))
 ·refine cM h Y2 rfl p0 fun v6 h => ?_
  apply iU h <;> intro h
  ·obtain rfl := Qc h; exact (Frz.tuple' (.cons q4n p2))
  ·refine cM h Z0 rfl p1 fun v9 h => ?_
   refine Q16 Qw1 ?_
   refine cM h X0 rfl p1 fun v11 h => ?_
   refine cM h Zf rfl p0 fun v13 h => ?_
   apply iU h <;> intro h
   ·obtain rfl := Qc h; exact (Frz.tuple' (.cons q4n p2))
   ·apply iU h <;> intro h
    ·obtain rfl := Qc h; exact (Frz.tuple' (.cons q4n p2))
    ·apply iU h <;> intro h
     ·apply iU h <;> intro h
      ·obtain rfl := Qc h; exact (Frz.tuple' (.cons q4n p2))
      ·apply iU h <;> intro h
       ·refine cM h Y2 rfl p0 fun v20 h => ?_
        apply iU h <;> intro h
        ·obtain rfl := Qc h; exact (Frz.tuple' (.cons q4n p2))
        ·refine cM h X0 rfl p1 fun v23 h => ?_
         refine cP h Wz p1 fun v25 h => ?_
         apply iU h <;> intro h
         ·obtain rfl := Qc h; exact (Frz.tuple' (.cons q4n p2))
         ·apply iU h <;> intro h
          ·obtain rfl := Qc h; exact (Frz.tuple' (.cons q4n p2))
          ·refine lpC (τ := Int × (List UInt8) × Int × Int × (List Q0)) (fun ⟨s86, _, _, _, _⟩ => (a4 (a2 (.ptr 1 0 :: .any :: .any :: .ptr 2 0 :: .any :: .ptr 4 0 :: .any :: iI (IntKind.wrap .i64 v23.1) :: a16 (a16 (a16 (a16 (a16 (a2 (.any :: iW v11.1 :: iW s86 :: a16 (a16 (a2 ([]))))))))))) : List AV)) (fun ⟨_, c87, c88, c89, l90⟩ => (.cells (iI c.Code :: iI c.Kind :: iI c.Width :: .p (.bool c.Sized) :: .p (.bool c.Items) :: []) :: .cells (iI c.Kind :: iW (IntKind.wrap .u64 v25.1.Kind) :: iS [] :: .slice 4 6 0 l90.length :: []) :: .cells (iS v9.2.text :: iI v9.2.at' :: iI v9.2.err :: []) :: .cells (iS c87 :: iI c88 :: iI c89 :: []) :: .cells (.ptr 3 0 :: iI (IntKind.wrap .i64 (most - 1)) :: []) :: .cells (iI v25.1.Code :: iI v25.1.Kind :: iI v25.1.Width :: .p (.bool v25.1.Sized) :: .p (.bool v25.1.Items) :: []) :: .cells (Wt Q0.cells l90) :: [] : List AObj)) (fun n0 ⟨s86, c87, c88, c89, l90⟩ => We R_amqvalue_Read R_amqvalue_Data N c most v9 v11 v23 v25 n0 s86 c87 c88 c89 l90) (0, v23.2.text, v23.2.at', v23.2.err, []) h (fun i => i) ⟨(rV <| rW <| rE rfl <| rW <| rE rfl <| rA <| rE rfl <| rA <| rE rfl <| rX <| rX <| rX <| rX <| rX <| rX <| rX <| rX <| rX <| rX <| rW <| rA <| rE rfl <| rE rfl <| rX <| rX <| rX <| rX <| rW <| rN), (hE rfl <| hC rfl (rE rfl <| rE rfl <| rE rfl <| rS <| rN) <| hE rfl <| hE rfl <| hE rfl <| hE rfl <| hV lb <| hN), rfl, rfl, (roE rfl <| roE rfl <| roE rfl <| roE rfl <| roE rfl <| roE rfl <| roE (Qd _ _ _) <| roN)⟩ fun n0 ⟨s86, c87, c88, c89, l90⟩ h => ?_
           simp only [We] at h
           apply iU h <;> intro h
           ·refine Q16 Qul ?_
            apply iU h <;> intro h
            ·refine Qe ?_
             refine dM h Y0 rfl p0 fun v93 h => ?_
             refine cD h hR_amqvalue_Read p2 fun v95 h => ?_
             apply iU h <;> intro h
             ·refine cM h Z0 rfl p1 fun v98 h => ?_
              apply iU h <;> intro h
              ·refine ifT (by unfold Q5; decide) ?_
               obtain rfl := Qc h; exact (Frz.tuple' (.cons q4n p2))
              ·apply iU h <;> intro h
               ·obtain rfl := Qc h; exact (Frz.tuple' (.cons q4n p2))
               ·obtain ⟨hk102, h⟩ := Q7i h
                refine Q3q (Vr (c := Q0.cells) (e := 4) (fun _ => rfl) (by simp) hk102) ?_
                refine Jm (c := Q0.cells) [v95.1] rfl ?_
                show Exists _
                exact ⟨(n0, (IntKind.wrap .u64 (s86 + 1)), v98.2.text, v98.2.at', v98.2.err, (l90 ++ [v95.1])), h, Nat.lt_succ_self _, (rho [0, 1, 2, 3, 4, 5, 12]), ⟨(rV <| rW <| rE rfl <| rW <| rE rfl <| rA <| rE rfl <| rA <| rE rfl <| rX <| rX <| rX <| rX <| rX <| rX <| rX <| rX <| rX <| rX <| rW <| rA <| rE rfl <| rE rfl <| rX <| rX <| rX <| rX <| rW <| rN), (hE rfl <| hC rfl (rE rfl <| rE rfl <| rE rfl <| rL (by simp) rfl <| rN) <| hE rfl <| hE rfl <| hE rfl <| hE rfl <| hO rfl <| hN), rfl, rfl, (roE rfl <| roE rfl <| roE rfl <| roE rfl <| roE rfl <| roE rfl <| roE (Qd _ _ _) <| roN)⟩⟩
             ·apply iU h <;> intro h
              ·refine ifT (by unfold Q5; decide) ?_
               obtain rfl := Qc h; exact (Frz.tuple' (.cons q4n p2))
              ·apply iU h <;> intro h
               ·obtain rfl := Qc h; exact (Frz.tuple' (.cons q4n p2))
               ·obtain ⟨hk105, h⟩ := Q7i h
                refine Q3q (Vr (c := Q0.cells) (e := 4) (fun _ => rfl) (by simp) hk105) ?_
                refine Jm (c := Q0.cells) [v95.1] rfl ?_
                show Exists _
                exact ⟨(n0, (IntKind.wrap .u64 (s86 + 1)), v93.2.text, v93.2.at', v93.2.err, (l90 ++ [v95.1])), h, Nat.lt_succ_self _, (rho [0, 1, 2, 3, 4, 5, 12]), ⟨(rV <| rW <| rE rfl <| rW <| rE rfl <| rA <| rE rfl <| rA <| rE rfl <| rX <| rX <| rX <| rX <| rX <| rX <| rX <| rX <| rX <| rX <| rW <| rA <| rE rfl <| rE rfl <| rX <| rX <| rX <| rX <| rW <| rN), (hE rfl <| hC rfl (rE rfl <| rE rfl <| rE rfl <| rL (by simp) rfl <| rN) <| hE rfl <| hE rfl <| hE rfl <| hE rfl <| hO rfl <| hN), rfl, rfl, (roE rfl <| roE rfl <| roE rfl <| roE rfl <| roE rfl <| roE rfl <| roE (Qd _ _ _) <| roN)⟩⟩
            ·refine Qe ?_
             refine dM h Y0 rfl p0 fun v106 h => ?_
             refine cD h hR_amqvalue_Data p3 fun v108 h => ?_
             apply iU h <;> intro h
             ·refine cM h Z0 rfl p1 fun v111 h => ?_
              apply iU h <;> intro h
              ·refine ifT (by unfold Q5; decide) ?_
               obtain rfl := Qc h; exact (Frz.tuple' (.cons q4n p2))
              ·apply iU h <;> intro h
               ·obtain rfl := Qc h; exact (Frz.tuple' (.cons q4n p2))
               ·obtain ⟨hk115, h⟩ := Q7i h
                refine Q3q (Vr (c := Q0.cells) (e := 4) (fun _ => rfl) (by simp) hk115) ?_
                refine Jm (c := Q0.cells) [v108.1] rfl ?_
                show Exists _
                exact ⟨(n0, (IntKind.wrap .u64 (s86 + 1)), v111.2.text, v111.2.at', v111.2.err, (l90 ++ [v108.1])), h, Nat.lt_succ_self _, (rho [0, 1, 2, 3, 4, 5, 12]), ⟨(rV <| rW <| rE rfl <| rW <| rE rfl <| rA <| rE rfl <| rA <| rE rfl <| rX <| rX <| rX <| rX <| rX <| rX <| rX <| rX <| rX <| rX <| rW <| rA <| rE rfl <| rE rfl <| rX <| rX <| rX <| rX <| rW <| rN), (hE rfl <| hC rfl (rE rfl <| rE rfl <| rE rfl <| rL (by simp) rfl <| rN) <| hE rfl <| hE rfl <| hE rfl <| hE rfl <| hO rfl <| hN), rfl, rfl, (roE rfl <| roE rfl <| roE rfl <| roE rfl <| roE rfl <| roE rfl <| roE (Qd _ _ _) <| roN)⟩⟩
             ·apply iU h <;> intro h
              ·refine ifT (by unfold Q5; decide) ?_
               obtain rfl := Qc h; exact (Frz.tuple' (.cons q4n p2))
              ·apply iU h <;> intro h
               ·obtain rfl := Qc h; exact (Frz.tuple' (.cons q4n p2))
               ·obtain ⟨hk118, h⟩ := Q7i h
                refine Q3q (Vr (c := Q0.cells) (e := 4) (fun _ => rfl) (by simp) hk118) ?_
                refine Jm (c := Q0.cells) [v108.1] rfl ?_
                show Exists _
                exact ⟨(n0, (IntKind.wrap .u64 (s86 + 1)), v106.2.text, v106.2.at', v106.2.err, (l90 ++ [v108.1])), h, Nat.lt_succ_self _, (rho [0, 1, 2, 3, 4, 5, 12]), ⟨(rV <| rW <| rE rfl <| rW <| rE rfl <| rA <| rE rfl <| rA <| rE rfl <| rX <| rX <| rX <| rX <| rX <| rX <| rX <| rX <| rX <| rX <| rW <| rA <| rE rfl <| rE rfl <| rX <| rX <| rX <| rX <| rW <| rN), (hE rfl <| hC rfl (rE rfl <| rE rfl <| rE rfl <| rL (by simp) rfl <| rN) <| hE rfl <| hE rfl <| hE rfl <| hE rfl <| hO rfl <| hN), rfl, rfl, (roE rfl <| roE rfl <| roE rfl <| roE rfl <| roE rfl <| roE rfl <| roE (Qd _ _ _) <| roN)⟩⟩
           ·refine cM h Y2 rfl p0 fun v119 h => ?_
            apply iU h <;> intro h
            ·obtain rfl := Qc h; exact (Frz.tuple' (.cons q4n p2))
            ·refine cK h J7 (.cons (Frz.agg' (.cons (.p _) (.cons (.p _) (.cons (.p _) (.cons (Q0.frz_own (l := l90) rfl trivial (by simp)) .nil))))) .nil) fun v122 h => ?_
             apply iU h <;> intro h
             ·obtain rfl := Qc h; exact (Frz.tuple' (.cons q4n p2))
             ·refine Qe ?_
              refine dM h Y7 rfl p0 fun v125 h => ?_
              obtain rfl := Qc h; exact (Frz.tuple' (.cons (Frz.agg' (.cons (.p _) (.cons (.p _) (.cons (.p _) (.cons (Q0.frz_own (l := l90) rfl trivial (by simp)) .nil))))) p2))
       ·refine lpC (τ := Int × (List UInt8) × Int × Int × (List Q0)) (fun ⟨s158, _, _, _, _⟩ => (a4 (a2 (.ptr 1 0 :: .any :: .any :: .ptr 2 0 :: .any :: .ptr 4 0 :: .any :: iI (-1) :: a16 (a16 (a16 (a16 (a16 (a2 (.any :: iW v11.1 :: iW s158 :: a16 (a16 (a2 ([]))))))))))) : List AV)) (fun ⟨_, Qpe, Qpn, Qr3, l162⟩ => (.cells (iI c.Code :: iI c.Kind :: iI c.Width :: .p (.bool c.Sized) :: .p (.bool c.Items) :: []) :: .cells (iI c.Kind :: iW 0 :: iS [] :: .slice 4 5 0 l162.length :: []) :: .cells (iS v9.2.text :: iI v9.2.at' :: iI v9.2.err :: []) :: .cells (iS Qpe :: iI Qpn :: iI Qr3 :: []) :: .cells (.ptr 3 0 :: iI (IntKind.wrap .i64 (most - 1)) :: []) :: .cells (Wt Q0.cells l162) :: [] : List AObj)) (fun n1 ⟨s158, Qpe, Qpn, Qr3, l162⟩ => Wf R_amqvalue_Read N c most v9 v11 n1 s158 Qpe Qpn Qr3 l162) (0, v13.2.text, v13.2.at', v13.2.err, []) h (fun i => i) ⟨(rV <| rW <| rE rfl <| rW <| rE rfl <| rA <| rE rfl <| rA <| rE rfl <| rX <| rX <| rX <| rX <| rX <| rX <| rX <| rX <| rX <| rX <| rW <| rA <| rE rfl <| rE rfl <| rX <| rX <| rX <| rX <| rW <| rN), (hE rfl <| hC rfl (rE rfl <| rE rfl <| rE rfl <| rS <| rN) <| hE rfl <| hE rfl <| hE rfl <| hV lb <| hN), rfl, rfl, (roE rfl <| roE rfl <| roE rfl <| roE rfl <| roE rfl <| roE (Qd _ _ _) <| roN)⟩ fun n1 ⟨s158, Qpe, Qpn, Qr3, l162⟩ h => ?_
        simp only [Wf] at h
        apply iU h <;> intro h
        ·refine Q16 Qul ?_
         refine ifT (by unfold Q5; decide) ?_
         refine Qe ?_
         refine dM h Y0 rfl p0 fun v164 h => ?_
         refine cD h hR_amqvalue_Read p2 fun v166 h => ?_
         apply iU h <;> intro h
         ·refine cM h Z0 rfl p1 fun v169 h => ?_
          apply iU h <;> intro h
          ·refine ifT (by unfold Q5; decide) ?_
           obtain rfl := Qc h; exact (Frz.tuple' (.cons q4n p2))
          ·apply iU h <;> intro h
           ·obtain rfl := Qc h; exact (Frz.tuple' (.cons q4n p2))
           ·obtain ⟨hk173, h⟩ := Q7i h
            refine Q3q (Vr (c := Q0.cells) (e := 4) (fun _ => rfl) (by simp) hk173) ?_
            refine Jm (c := Q0.cells) [v166.1] rfl ?_
            show Exists _
            exact ⟨(n1, (IntKind.wrap .u64 (s158 + 1)), v169.2.text, v169.2.at', v169.2.err, (l162 ++ [v166.1])), h, Nat.lt_succ_self _, (rho [0, 1, 2, 3, 4, 11]), ⟨(rV <| rW <| rE rfl <| rW <| rE rfl <| rA <| rE rfl <| rA <| rE rfl <| rX <| rX <| rX <| rX <| rX <| rX <| rX <| rX <| rX <| rX <| rW <| rA <| rE rfl <| rE rfl <| rX <| rX <| rX <| rX <| rW <| rN), (hE rfl <| hC rfl (rE rfl <| rE rfl <| rE rfl <| rL (by simp) rfl <| rN) <| hE rfl <| hE rfl <| hE rfl <| hO rfl <| hN), rfl, rfl, (roE rfl <| roE rfl <| roE rfl <| roE rfl <| roE rfl <| roE (Qd _ _ _) <| roN)⟩⟩
         ·apply iU h <;> intro h
          ·refine ifT (by unfold Q5; decide) ?_
           obtain rfl := Qc h; exact (Frz.tuple' (.cons q4n p2))
          ·apply iU h <;> intro h
           ·obtain rfl := Qc h; exact (Frz.tuple' (.cons q4n p2))
           ·obtain ⟨hk176, h⟩ := Q7i h
            refine Q3q (Vr (c := Q0.cells) (e := 4) (fun _ => rfl) (by simp) hk176) ?_
            refine Jm (c := Q0.cells) [v166.1] rfl ?_
            show Exists _
            exact ⟨(n1, (IntKind.wrap .u64 (s158 + 1)), v164.2.text, v164.2.at', v164.2.err, (l162 ++ [v166.1])), h, Nat.lt_succ_self _, (rho [0, 1, 2, 3, 4, 11]), ⟨(rV <| rW <| rE rfl <| rW <| rE rfl <| rA <| rE rfl <| rA <| rE rfl <| rX <| rX <| rX <| rX <| rX <| rX <| rX <| rX <| rX <| rX <| rW <| rA <| rE rfl <| rE rfl <| rX <| rX <| rX <| rX <| rW <| rN), (hE rfl <| hC rfl (rE rfl <| rE rfl <| rE rfl <| rL (by simp) rfl <| rN) <| hE rfl <| hE rfl <| hE rfl <| hO rfl <| hN), rfl, rfl, (roE rfl <| roE rfl <| roE rfl <| roE rfl <| roE rfl <| roE (Qd _ _ _) <| roN)⟩⟩
        ·refine cM h Y2 rfl p0 fun v177 h => ?_
         apply iU h <;> intro h
         ·obtain rfl := Qc h; exact (Frz.tuple' (.cons q4n p2))
         ·refine cK h J7 (.cons (Frz.agg' (.cons (.p _) (.cons (.p _) (.cons (.p _) (.cons (Q0.frz_own (l := l162) rfl trivial (by simp)) .nil))))) .nil) fun v180 h => ?_
          apply iU h <;> intro h
          ·obtain rfl := Qc h; exact (Frz.tuple' (.cons q4n p2))
          ·refine Qe ?_
           refine dM h Y7 rfl p0 fun v183 h => ?_
           obtain rfl := Qc h; exact (Frz.tuple' (.cons (Frz.agg' (.cons (.p _) (.cons (.p _) (.cons (.p _) (.cons (Q0.frz_own (l := l162) rfl trivial (by simp)) .nil))))) p2))
     ·apply iU h <;> intro h
      ·refine cM h Y2 rfl p0 fun v186 h => ?_
       apply iU h <;> intro h
       ·obtain rfl := Qc h; exact (Frz.tuple' (.cons q4n p2))
       ·refine cM h X0 rfl p1 fun v189 h => ?_
        refine cP h Wz p1 fun v191 h => ?_
        apply iU h <;> intro h
        ·obtain rfl := Qc h; exact (Frz.tuple' (.cons q4n p2))
        ·apply iU h <;> intro h
         ·obtain rfl := Qc h; exact (Frz.tuple' (.cons q4n p2))
         ·refine lpC (τ := Int × (List UInt8) × Int × Int × (List Q0)) (fun ⟨s252, _, _, _, _⟩ => (a4 (a2 (.ptr 1 0 :: .any :: .any :: .ptr 2 0 :: .any :: .ptr 4 0 :: .any :: iI (IntKind.wrap .i64 v189.1) :: a16 (a16 (a16 (a16 (a16 (a2 (.any :: iW v11.1 :: iW s252 :: a16 (a16 (a2 ([]))))))))))) : List AV)) (fun ⟨_, c253, c254, c255, l256⟩ => (.cells (iI c.Code :: iI c.Kind :: iI c.Width :: .p (.bool c.Sized) :: .p (.bool c.Items) :: []) :: .cells (iI c.Kind :: iW (IntKind.wrap .u64 v191.1.Kind) :: iS [] :: .slice 4 6 0 l256.length :: []) :: .cells (iS v9.2.text :: iI v9.2.at' :: iI v9.2.err :: []) :: .cells (iS c253 :: iI c254 :: iI c255 :: []) :: .cells (.ptr 3 0 :: iI (IntKind.wrap .i64 (most - 1)) :: []) :: .cells (iI v191.1.Code :: iI v191.1.Kind :: iI v191.1.Width :: .p (.bool v191.1.Sized) :: .p (.bool v191.1.Items) :: []) :: .cells (Wt Q0.cells l256) :: [] : List AObj)) (fun n2 ⟨s252, c253, c254, c255, l256⟩ => Zy R_amqvalue_Read R_amqvalue_Data N c most v9 v11 v189 v191 n2 s252 c253 c254 c255 l256) (0, v189.2.text, v189.2.at', v189.2.err, []) h (fun i => i) ⟨(rV <| rW <| rE rfl <| rW <| rE rfl <| rA <| rE rfl <| rA <| rE rfl <| rX <| rX <| rX <| rX <| rX <| rX <| rX <| rX <| rX <| rX <| rW <| rA <| rE rfl <| rE rfl <| rX <| rX <| rX <| rX <| rW <| rN), (hE rfl <| hC rfl (rE rfl <| rE rfl <| rE rfl <| rS <| rN) <| hE rfl <| hE rfl <| hE rfl <| hE rfl <| hV lb <| hN), rfl, rfl, (roE rfl <| roE rfl <| roE rfl <| roE rfl <| roE rfl <| roE rfl <| roE (Qd _ _ _) <| roN)⟩ fun n2 ⟨s252, c253, c254, c255, l256⟩ h => ?_
          simp only [Zy] at h
          apply iU h <;> intro h
          ·refine Q16 Qul ?_
           apply iU h <;> intro h
           ·refine Qe ?_
            refine dM h Y0 rfl p0 fun v259 h => ?_
            refine cD h hR_amqvalue_Read p2 fun v261 h => ?_
            apply iU h <;> intro h
            ·refine cM h Z0 rfl p1 fun v264 h => ?_
             apply iU h <;> intro h
             ·refine ifT (by unfold Q5; decide) ?_
              obtain rfl := Qc h; exact (Frz.tuple' (.cons q4n p2))
             ·apply iU h <;> intro h
              ·obtain rfl := Qc h; exact (Frz.tuple' (.cons q4n p2))
              ·obtain ⟨hk268, h⟩ := Q7i h
               refine Q3q (Vr (c := Q0.cells) (e := 4) (fun _ => rfl) (by simp) hk268) ?_
               refine Jm (c := Q0.cells) [v261.1] rfl ?_
               show Exists _
               exact ⟨(n2, (IntKind.wrap .u64 (s252 + 1)), v264.2.text, v264.2.at', v264.2.err, (l256 ++ [v261.1])), h, Nat.lt_succ_self _, (rho [0, 1, 2, 3, 4, 5, 12]), ⟨(rV <| rW <| rE rfl <| rW <| rE rfl <| rA <| rE rfl <| rA <| rE rfl <| rX <| rX <| rX <| rX <| rX <| rX <| rX <| rX <| rX <| rX <| rW <| rA <| rE rfl <| rE rfl <| rX <| rX <| rX <| rX <| rW <| rN), (hE rfl <| hC rfl (rE rfl <| rE rfl <| rE rfl <| rL (by simp) rfl <| rN) <| hE rfl <| hE rfl <| hE rfl <| hE rfl <| hO rfl <| hN), rfl, rfl, (roE rfl <| roE rfl <| roE rfl <| roE rfl <| roE rfl <| roE rfl <| roE (Qd _ _ _) <| roN)⟩⟩
            ·apply iU h <;> intro h
             ·refine ifT (by unfold Q5; decide) ?_
              obtain rfl := Qc h; exact (Frz.tuple' (.cons q4n p2))
             ·apply iU h <;> intro h
              ·obtain rfl := Qc h; exact (Frz.tuple' (.cons q4n p2))
              ·obtain ⟨hk271, h⟩ := Q7i h
               refine Q3q (Vr (c := Q0.cells) (e := 4) (fun _ => rfl) (by simp) hk271) ?_
               refine Jm (c := Q0.cells) [v261.1] rfl ?_
               show Exists _
               exact ⟨(n2, (IntKind.wrap .u64 (s252 + 1)), v259.2.text, v259.2.at', v259.2.err, (l256 ++ [v261.1])), h, Nat.lt_succ_self _, (rho [0, 1, 2, 3, 4, 5, 12]), ⟨(rV <| rW <| rE rfl <| rW <| rE rfl <| rA <| rE rfl <| rA <| rE rfl <| rX <| rX <| rX <| rX <| rX <| rX <| rX <| rX <| rX <| rX <| rW <| rA <| rE rfl <| rE rfl <| rX <| rX <| rX <| rX <| rW <| rN), (hE rfl <| hC rfl (rE rfl <| rE rfl <| rE rfl <| rL (by simp) rfl <| rN) <| hE rfl <| hE rfl <| hE rfl <| hE rfl <| hO rfl <| hN), rfl, rfl, (roE rfl <| roE rfl <| roE rfl <| roE rfl <| roE rfl <| roE rfl <| roE (Qd _ _ _) <| roN)⟩⟩
           ·refine Qe ?_
            refine dM h Y0 rfl p0 fun v272 h => ?_
            refine cD h hR_amqvalue_Data p3 fun v274 h => ?_
            apply iU h <;> intro h
            ·refine cM h Z0 rfl p1 fun v277 h => ?_
             apply iU h <;> intro h
             ·refine ifT (by unfold Q5; decide) ?_
              obtain rfl := Qc h; exact (Frz.tuple' (.cons q4n p2))
             ·apply iU h <;> intro h
              ·obtain rfl := Qc h; exact (Frz.tuple' (.cons q4n p2))
              ·obtain ⟨hk281, h⟩ := Q7i h
               refine Q3q (Vr (c := Q0.cells) (e := 4) (fun _ => rfl) (by simp) hk281) ?_
               refine Jm (c := Q0.cells) [v274.1] rfl ?_
               show Exists _
               exact ⟨(n2, (IntKind.wrap .u64 (s252 + 1)), v277.2.text, v277.2.at', v277.2.err, (l256 ++ [v274.1])), h, Nat.lt_succ_self _, (rho [0, 1, 2, 3, 4, 5, 12]), ⟨(rV <| rW <| rE rfl <| rW <| rE rfl <| rA <| rE rfl <| rA <| rE rfl <| rX <| rX <| rX <| rX <| rX <| rX <| rX <| rX <| rX <| rX <| rW <| rA <| rE rfl <| rE rfl <| rX <| rX <| rX <| rX <| rW <| rN), (hE rfl <| hC rfl (rE rfl <| rE rfl <| rE rfl <| rL (by simp) rfl <| rN) <| hE rfl <| hE rfl <| hE rfl <| hE rfl <| hO rfl <| hN), rfl, rfl, (roE rfl <| roE rfl <| roE rfl <| roE rfl <| roE rfl <| roE rfl <| roE (Qd _ _ _) <| roN)⟩⟩
            ·apply iU h <;> intro h
             ·refine ifT (by unfold Q5; decide) ?_
              obtain rfl := Qc h; exact (Frz.tuple' (.cons q4n p2))
             ·apply iU h <;> intro h
              ·obtain rfl := Qc h; exact (Frz.tuple' (.cons q4n p2))
              ·obtain ⟨hk284, h⟩ := Q7i h
               refine Q3q (Vr (c := Q0.cells) (e := 4) (fun _ => rfl) (by simp) hk284) ?_
               refine Jm (c := Q0.cells) [v274.1] rfl ?_
               show Exists _
               exact ⟨(n2, (IntKind.wrap .u64 (s252 + 1)), v272.2.text, v272.2.at', v272.2.err, (l256 ++ [v274.1])), h, Nat.lt_succ_self _, (rho [0, 1, 2, 3, 4, 5, 12]), ⟨(rV <| rW <| rE rfl <| rW <| rE rfl <| rA <| rE rfl <| rA <| rE rfl <| rX <| rX <| rX <| rX <| rX <| rX <| rX <| rX <| rX <| rX <| rW <| rA <| rE rfl <| rE rfl <| rX <| rX <| rX <| rX <| rW <| rN), (hE rfl <| hC rfl (rE rfl <| rE rfl <| rE rfl <| rL (by simp) rfl <| rN) <| hE rfl <| hE rfl <| hE rfl <| hE rfl <| hO rfl <| hN), rfl, rfl, (roE rfl <| roE rfl <| roE rfl <| roE rfl <| roE rfl <| roE rfl <| roE (Qd _ _ _) <| roN)⟩⟩
          ·refine cM h Y2 rfl p0 fun v285 h => ?_
           apply iU h <;> intro h
           ·obtain rfl := Qc h; exact (Frz.tuple' (.cons q4n p2))
           ·refine cK h J7 (.cons (Frz.agg' (.cons (.p _) (.cons (.p _) (.cons (.p _) (.cons (Q0.frz_own (l := l256) rfl trivial (by simp)) .nil))))) .nil) fun v288 h => ?_
            apply iU h <;> intro h
            ·obtain rfl := Qc h; exact (Frz.tuple' (.cons q4n p2))
            ·refine Qe ?_
             refine dM h Y7 rfl p0 fun v291 h => ?_
             obtain rfl := Qc h; exact (Frz.tuple' (.cons (Frz.agg' (.cons (.p _) (.cons (.p _) (.cons (.p _) (.cons (Q0.frz_own (l := l256) rfl trivial (by simp)) .nil))))) p2))
      ·refine lpC (τ := Int × (List UInt8) × Int × Int × (List Q0)) (fun ⟨s324, _, _, _, _⟩ => (a4 (a2 (.ptr 1 0 :: .any :: .any :: .ptr 2 0 :: .any :: .ptr 4 0 :: .any :: iI (-1) :: a16 (a16 (a16 (a16 (a16 (a2 (.any :: iW v11.1 :: iW s324 :: a16 (a16 (a2 ([]))))))))))) : List AV)) (fun ⟨_, c325, c326, c327, l328⟩ => (.cells (iI c.Code :: iI c.Kind :: iI c.Width :: .p (.bool c.Sized) :: .p (.bool c.Items) :: []) :: .cells (iI c.Kind :: iW 0 :: iS [] :: .slice 4 5 0 l328.length :: []) :: .cells (iS v9.2.text :: iI v9.2.at' :: iI v9.2.err :: []) :: .cells (iS c325 :: iI c326 :: iI c327 :: []) :: .cells (.ptr 3 0 :: iI (IntKind.wrap .i64 (most - 1)) :: []) :: .cells (Wt Q0.cells l328) :: [] : List AObj)) (fun n3 ⟨s324, c325, c326, c327, l328⟩ => Wg R_amqvalue_Read N c most v9 v11 n3 s324 c325 c326 c327 l328) (0, v13.2.text, v13.2.at', v13.2.err, []) h (fun i => i) ⟨(rV <| rW <| rE rfl <| rW <| rE rfl <| rA <| rE rfl <| rA <| rE rfl <| rX <| rX <| rX <| rX <| rX <| rX <| rX <| rX <| rX <| rX <| rW <| rA <| rE rfl <| rE rfl <| rX <| rX <| rX <| rX <| rW <| rN), (hE rfl <| hC rfl (rE rfl <| rE rfl <| rE rfl <| rS <| rN) <| hE rfl <| hE rfl <| hE rfl <| hV lb <| hN), rfl, rfl, (roE rfl <| roE rfl <| roE rfl <| roE rfl <| roE rfl <| roE (Qd _ _ _) <| roN)⟩ fun n3 ⟨s324, c325, c326, c327, l328⟩ h => ?_
       simp only [Wg] at h
       apply iU h <;> intro h
       ·refine Q16 Qul ?_
        refine ifT (by unfold Q5; decide) ?_
        refine Qe ?_
        refine dM h Y0 rfl p0 fun v330 h => ?_
        refine cD h hR_amqvalue_Read p2 fun v332 h => ?_
        apply iU h <;> intro h
        ·refine cM h Z0 rfl p1 fun v335 h => ?_
         apply iU h <;> intro h
         ·refine ifT (by unfold Q5; decide) ?_
          obtain rfl := Qc h; exact (Frz.tuple' (.cons q4n p2))
         ·apply iU h <;> intro h
          ·obtain rfl := Qc h; exact (Frz.tuple' (.cons q4n p2))
          ·obtain ⟨hk339, h⟩ := Q7i h
           refine Q3q (Vr (c := Q0.cells) (e := 4) (fun _ => rfl) (by simp) hk339) ?_
           refine Jm (c := Q0.cells) [v332.1] rfl ?_
           show Exists _
           exact ⟨(n3, (IntKind.wrap .u64 (s324 + 1)), v335.2.text, v335.2.at', v335.2.err, (l328 ++ [v332.1])), h, Nat.lt_succ_self _, (rho [0, 1, 2, 3, 4, 11]), ⟨(rV <| rW <| rE rfl <| rW <| rE rfl <| rA <| rE rfl <| rA <| rE rfl <| rX <| rX <| rX <| rX <| rX <| rX <| rX <| rX <| rX <| rX <| rW <| rA <| rE rfl <| rE rfl <| rX <| rX <| rX <| rX <| rW <| rN), (hE rfl <| hC rfl (rE rfl <| rE rfl <| rE rfl <| rL (by simp) rfl <| rN) <| hE rfl <| hE rfl <| hE rfl <| hO rfl <| hN), rfl, rfl, (roE rfl <| roE rfl <| roE rfl <| roE rfl <| roE rfl <| roE (Qd _ _ _) <| roN)⟩⟩
        ·apply iU h <;> intro h
         ·refine ifT (by unfold Q5; decide) ?_
          obtain rfl := Qc h; exact (Frz.tuple' (.cons q4n p2))
         ·apply iU h <;> intro h
          ·obtain rfl := Qc h; exact (Frz.tuple' (.cons q4n p2))
          ·obtain ⟨hk342, h⟩ := Q7i h
           refine Q3q (Vr (c := Q0.cells) (e := 4) (fun _ => rfl) (by simp) hk342) ?_
           refine Jm (c := Q0.cells) [v332.1] rfl ?_
           show Exists _
           exact ⟨(n3, (IntKind.wrap .u64 (s324 + 1)), v330.2.text, v330.2.at', v330.2.err, (l328 ++ [v332.1])), h, Nat.lt_succ_self _, (rho [0, 1, 2, 3, 4, 11]), ⟨(rV <| rW <| rE rfl <| rW <| rE rfl <| rA <| rE rfl <| rA <| rE rfl <| rX <| rX <| rX <| rX <| rX <| rX <| rX <| rX <| rX <| rX <| rW <| rA <| rE rfl <| rE rfl <| rX <| rX <| rX <| rX <| rW <| rN), (hE rfl <| hC rfl (rE rfl <| rE rfl <| rE rfl <| rL (by simp) rfl <| rN) <| hE rfl <| hE rfl <| hE rfl <| hO rfl <| hN), rfl, rfl, (roE rfl <| roE rfl <| roE rfl <| roE rfl <| roE rfl <| roE (Qd _ _ _) <| roN)⟩⟩
       ·refine cM h Y2 rfl p0 fun v343 h => ?_
        apply iU h <;> intro h
        ·obtain rfl := Qc h; exact (Frz.tuple' (.cons q4n p2))
        ·refine cK h J7 (.cons (Frz.agg' (.cons (.p _) (.cons (.p _) (.cons (.p _) (.cons (Q0.frz_own (l := l328) rfl trivial (by simp)) .nil))))) .nil) fun v346 h => ?_
         apply iU h <;> intro h
         ·obtain rfl := Qc h; exact (Frz.tuple' (.cons q4n p2))
         ·refine Qe ?_
          refine dM h Y7 rfl p0 fun v349 h => ?_
          obtain rfl := Qc h; exact (Frz.tuple' (.cons (Frz.agg' (.cons (.p _) (.cons (.p _) (.cons (.p _) (.cons (Q0.frz_own (l := l328) rfl trivial (by simp)) .nil))))) p2))
def Qi : Nat → ((List UInt8) → Int → Option (Q0 × Int × Int)) × (Int → (List UInt8) → Int → Option (Q0 × Int × Int)) × ((List UInt8) → Int → Option (Q0 × Int × Int)) × (Qf → (List UInt8) → Int → Option (Q0 × Int × Int))
 | 0 => (fun _ _ => none, fun _ _ _ => none, fun _ _ => none, fun _ _ _ => none)
 | N + 1 => (Wx ((Qi N).1) ((Qi N).2.1) ((Qi N).2.2.1) ((Qi N).2.2.2) N, Ur ((Qi N).1) ((Qi N).2.1) ((Qi N).2.2.1) ((Qi N).2.2.2) N, Ue ((Qi N).1) ((Qi N).2.1) ((Qi N).2.2.1) ((Qi N).2.2.2) N, Uz ((Qi N).1) ((Qi N).2.1) ((Qi N).2.2.1) ((Qi N).2.2.2) N)
def Zc (N : Nat) : (List UInt8) → Int → Option (Q0 × Int × Int) := (Qi N).1
def W8 (N : Nat) : Int → (List UInt8) → Int → Option (Q0 × Int × Int) := (Qi N).2.1
def Xu (N : Nat) : (List UInt8) → Int → Option (Q0 × Int × Int) := (Qi N).2.2.1
def U4 (N : Nat) : Qf → (List UInt8) → Int → Option (Q0 × Int × Int) := (Qi N).2.2.2
theorem Q8j : ∀ N, (∀ {s_0 : List UInt8} {most : Int} {r : Q0 × Int × Int}, (Qi N).1 s_0 most = some r → Qz Tryz.prog G1 73 [.str s_0, .int .i64 most] (.tuple [.agg (Q0.cells r.1), .int .i64 r.2.1, .int .i64 r.2.2])) ∧ (∀ {code : Int} {s_1 : List UInt8} {most : Int} {r : Q0 × Int × Int}, (Qi N).2.1 code s_1 most = some r → Qz Tryz.prog G1 106 [.int .i64 code, .str s_1, .int .i64 most] (.tuple [.agg (Q0.cells r.1), .int .i64 r.2.1, .int .i64 r.2.2])) ∧ (∀ {s_0 : List UInt8} {most : Int} {r : Q0 × Int × Int}, (Qi N).2.2.1 s_0 most = some r → Qz Tryz.prog G1 125 [.str s_0, .int .i64 most] (.tuple [.agg (Q0.cells r.1), .int .i64 r.2.1, .int .i64 r.2.2])) ∧ (∀ {c : Qf} {s_1 : List UInt8} {most : Int} {r : Q0 × Int × Int}, (Qi N).2.2.2 c s_1 most = some r → Qz Tryz.prog G1 126 [.agg (Qf.cells c), .str s_1, .int .i64 most] (.tuple [.agg (Q0.cells r.1), .int .i64 r.2.1, .int .i64 r.2.2])) := by
 intro N
 induction N with
 | zero => exact ⟨(fun h => by simp [Qi] at h), (fun h => by simp [Qi] at h), (fun h => by simp [Qi] at h), (fun h => by simp [Qi] at h)⟩
 | succ N ih => exact ⟨(fun h => Q8b (N := N) (fun h => ih.1 h) (fun h => ih.2.1 h) (fun h => ih.2.2.1 h) (fun h => ih.2.2.2 h) h), (fun h => Q81 (N := N) (fun h => ih.1 h) (fun h => ih.2.1 h) (fun h => ih.2.2.1 h) (fun h => ih.2.2.2 h) h), (fun h => Q46 (N := N) (fun h => ih.1 h) (fun h => ih.2.1 h) (fun h => ih.2.2.1 h) (fun h => ih.2.2.2 h) h), (fun h => Q7d (N := N) (fun h => ih.1 h) (fun h => ih.2.1 h) (fun h => ih.2.2.1 h) (fun h => ih.2.2.2 h) h)⟩
theorem Q7m {N : Nat} {s_0 : List UInt8} {most : Int} {r : Q0 × Int × Int} (h : Zc N s_0 most = some r) : Qz Tryz.prog G1 73 [.str s_0, .int .i64 most] (.tuple [.agg (Q0.cells r.1), .int .i64 r.2.1, .int .i64 r.2.2]) := (Q8j N).1 h
def J1 (N : Nat) (s_0 : List UInt8) (most : Int) : Option ((List UInt8) × Int) :=
 (Zc N s_0 most).bind fun v1 =>
 cond (Q5 .neq v1.2.2 0)
 (some ([], v1.2.2))
 (cond (Q5 .neq v1.2.1 (s_0.length : Int))
 (some ([], 5))
 ((U6 N v1.1 most).bind fun v5 =>
 some (v5.1, v5.2)))
theorem Q1x {N} {s_0} {most} {r} (h : J1 N s_0 most = some r) : Qz Tryz.prog G1 29 [.str s_0, .int .i64 most] (.tuple [.str r.1, .int .i64 r.2]) := by
 refine Q4 k29 ?_
 unfold J1 at h
 refine cP h Q7m p2 fun v1 h => ?_
 apply iU h <;> intro h
 ·obtain rfl := Qc h; exact u2
 ·apply iU h <;> intro h
  ·obtain rfl := Qc h; exact u2
  ·refine cP h Gz (.cons q4 p1) fun v5 h => ?_
   obtain rfl := Qc h; exact u2
def Wh (N : Nat) (s_0 : List UInt8) (most : Int) : Option ((List UInt8) × Int) :=
 (Qu N s_0 most).bind fun v1 =>
 cond (Q5 .neq v1.2.2 0)
 (some ([], v1.2.2))
 (cond (Q5 .neq v1.2.1 (s_0.length : Int))
 (some ([], 5))
 ((Wl N v1.1 most).bind fun v5 =>
 some (v5.1, v5.2)))
theorem Q08 {N} {s_0} {most} {r} (h : Wh N s_0 most = some r) : Qz Tryz.prog G1 35 [.str s_0, .int .i64 most] (.tuple [.str r.1, .int .i64 r.2]) := by
 refine Q4 k35 ?_
 unfold Wh at h
 refine cP h Q0g p2 fun v1 h => ?_
 apply iU h <;> intro h
 ·obtain rfl := Qc h; exact u2
 ·apply iU h <;> intro h
  ·obtain rfl := Qc h; exact u2
  ·refine cP h Q03 (.cons q4 p1) fun v5 h => ?_
   obtain rfl := Qc h; exact u2
def Wa (N : Nat) (v : Q0) (s_1 : List UInt8) (most : Int) : Option (Bool) :=
 (J5 N).bind fun v1 =>
 cond (!v1)
 (some false)
 ((Yz N v).bind fun v4 =>
 cond (!v4)
 (some true)
 (cond (Q5 .gtr (s_1.length : Int) 200)
 (some true)
 ((W6 N v).bind fun v8 =>
 (U6 N v8 most).bind fun v10 =>
 (Wl N v most).bind fun v12 =>
 (Gc N v most).bind fun v14 =>
 cond (Q36 .neq v10.1 v12.1)
 (some false)
 (cond (Q5 .neq v10.2 v12.2)
 (some false)
 (cond (Q5 .neq v14.1 (v12.1.length : Int))
 (some false)
 (cond (Q5 .neq v14.2 v12.2)
 (some false)
 ((X9 N v).bind fun v20 =>
 (Zr N v).bind fun v22 =>
 (Yg N v20 v22).bind fun v24 =>
 cond (!v24)
 (some false)
 ((Jh N v).bind fun v27 =>
 (V9 N v).bind fun v29 =>
 cond (!(v27 == v29))
 (some false)
 ((Qu N s_1 most).bind fun v32 =>
 cond (Q5 .eql v32.2.2 0)
 ((Yz N v32.1).bind fun v35 =>
 cond (!v35)
 (some true)
 ((J1 N s_1 most).bind fun v38 =>
 (Wh N s_1 most).bind fun v40 =>
 cond (Q36 .eql v38.1 v40.1)
 (some (Q5 .eql v38.2 v40.2))
 (some false)))
 ((J1 N s_1 most).bind fun v43 =>
 (Wh N s_1 most).bind fun v45 =>
 cond (Q36 .eql v43.1 v45.1)
 (some (Q5 .eql v43.2 v45.2))
 (some false)))))))))))
theorem Q0v {N} {v} {s_1} {most} {r} (h : Wa N v s_1 most = some r) : Qz Tryz.prog G1 7 [.agg (Q0.cells v), .str s_1, .int .i64 most] (.bool r) := by
 refine Q4 k7 ?_
 unfold Wa at h
 refine cP h Q42 p0 fun v1 h => ?_
 apply iU h <;> intro h
 ·cases h; exact (.p _)
 ·refine cP h Ga (.cons q4 .nil) fun v4 h => ?_
  apply iU h <;> intro h
  ·cases h; exact (.p _)
  ·apply iU h <;> intro h
   ·cases h; exact (.p _)
   ·refine cP h Q3a (.cons q4 .nil) fun v8 h => ?_
    refine cP h Gz p2 fun v10 h => ?_
    refine cP h Q03 (.cons q4 p1) fun v12 h => ?_
    refine cP h Q7x (.cons q4 p1) fun v14 h => ?_
    refine Qe ?_
    apply iU h <;> intro h
    ·cases h; exact (.p _)
    ·apply iU h <;> intro h
     ·cases h; exact (.p _)
     ·apply iU h <;> intro h
      ·cases h; exact (.p _)
      ·apply iU h <;> intro h
       ·cases h; exact (.p _)
       ·refine cD h G4 (.cons q4 .nil) fun v20 h => ?_
        refine cD h Jr (.cons q4 .nil) fun v22 h => ?_
        refine cD h Q2m p2 fun v24 h => ?_
        apply iU h <;> intro h
        ·cases h; exact (.p _)
        ·refine cD h Q6k (.cons q4 .nil) fun v27 h => ?_
         refine cD h Q3b (.cons q4 .nil) fun v29 h => ?_
         apply iU h <;> intro h
         ·cases h; exact (.p _)
         ·refine cP h Q0g p2 fun v32 h => ?_
          apply iU h <;> intro h
          ·refine cP h Ga (.cons q4 .nil) fun v35 h => ?_
           apply iU h <;> intro h
           ·cases h; exact (.p _)
           ·refine cP h Q1x p2 fun v38 h => ?_
            refine cP h Q08 p2 fun v40 h => ?_
            apply iU h <;> intro h
            ·cases h; exact (.p _)
            ·cases h; exact (.p _)
          ·refine cP h Q1x p2 fun v43 h => ?_
           refine cP h Q08 p2 fun v45 h => ?_
           apply iU h <;> intro h
           ·cases h; exact (.p _)
           ·cases h; exact (.p _)
end
end
end Go.Av
