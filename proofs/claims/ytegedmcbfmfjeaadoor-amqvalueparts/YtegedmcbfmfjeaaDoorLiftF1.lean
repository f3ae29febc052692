/- The law. Part of a proof of a given statement: for every input the law returns true and the arguments read as before; no condition beyond the given row. -/
import Derived.Test.YtegedmcbfmfjeaaDoorLiftF0
namespace Go.Av
noncomputable section
open Go.Proofs
set_option maxRecDepth 100000
set_option maxHeartbeats 4000000
attribute [local irreducible] Wy Xb Q5x Q8c Q5 Q66 Qe2
section
def Vp (R_amqvalue_Read : (List UInt8) → Int → Option (Q0 × Int × Int)) (R_amqvalue_Data : Int → (List UInt8) → Int → Option (Q0 × Int × Int)) (R_amqvalue_described : (List UInt8) → Int → Option (Q0 × Int × Int)) (R_amqvalue_sized : Qg → (List UInt8) → Int → Option (Q0 × Int × Int)) (N : Nat) (s_0 : List UInt8) (most : Int) : Option (Q0 × Int × Int) :=
 (X9 N most).bind fun v1 =>
 cond (!v1)
 (some ((⟨0, 0, [], []⟩ : Q0), 0, 2))
 (cond (Q66 .eql s_0 [])
 (some ((⟨0, 0, [], []⟩ : Q0), 0, 3))
 ((idx s_0 0).bind fun b5 =>
 cond (Nat.ble 1 s_0.length && Nat.ble s_0.length s_0.length) ((R_amqvalue_Data (IntKind.wrap .i64 (b5.toNat : Int)) ((s_0.take s_0.length).drop 1) most).bind fun v8 =>
 cond (Q5 .neq v8.2.2 0)
 (some ((⟨0, 0, [], []⟩ : Q0), 0, v8.2.2))
 (some (v8.1, (IntKind.wrap .i64 (v8.2.1 + 1)), 0))) none))
theorem Q48 {R_amqvalue_Read : (List UInt8) → Int → Option (Q0 × Int × Int)} {R_amqvalue_Data : Int → (List UInt8) → Int → Option (Q0 × Int × Int)} {R_amqvalue_described : (List UInt8) → Int → Option (Q0 × Int × Int)} {R_amqvalue_sized : Qg → (List UInt8) → Int → Option (Q0 × Int × Int)} (hR_amqvalue_Read : ∀ {s_0} {most} {r}, R_amqvalue_Read s_0 most = some r → Y9 Tryd.prog G1 11 [.str s_0, .int .i64 most] (.tuple [.agg (Q0.cells r.1), .int .i64 r.2.1, .int .i64 r.2.2])) (hR_amqvalue_Data : ∀ {code} {s_1} {most} {r}, R_amqvalue_Data code s_1 most = some r → Y9 Tryd.prog G1 35 [.int .i64 code, .str s_1, .int .i64 most] (.tuple [.agg (Q0.cells r.1), .int .i64 r.2.1, .int .i64 r.2.2])) (hR_amqvalue_described : ∀ {s_0} {most} {r}, R_amqvalue_described s_0 most = some r → Y9 Tryd.prog G1 48 [.str s_0, .int .i64 most] (.tuple [.agg (Q0.cells r.1), .int .i64 r.2.1, .int .i64 r.2.2])) (hR_amqvalue_sized : ∀ {c} {s_1} {most} {r}, R_amqvalue_sized c s_1 most = some r → Y9 Tryd.prog G1 49 [.agg (Qg.cells c), .str s_1, .int .i64 most] (.tuple [.agg (Q0.cells r.1), .int .i64 r.2.1, .int .i64 r.2.2])) {N} {s_0} {most} {r} (h : Vp R_amqvalue_Read R_amqvalue_Data R_amqvalue_described R_amqvalue_sized N s_0 most = some r) : Y9 Tryd.prog G1 11 [.str s_0, .int .i64 most] (.tuple [.agg (Q0.cells r.1), .int .i64 r.2.1, .int .i64 r.2.2]) := by
 refine Q6 k11 ?_
 unfold Vp at h
 refine cP h Ur p1 fun v1 h => ?_
 apply iU h <;> intro h
 ·obtain rfl := Qm h; exact (Frz.tuple' (.cons q4n p2))
 ·apply iU h <;> intro h
  ·obtain rfl := Qm h; exact (Frz.tuple' (.cons q4n p2))
  ·refine Qd ?_
   refine xB h fun b5 h => ?_
   refine kU h fun h => ?_
   refine cD h hR_amqvalue_Data p3 fun v8 h => ?_
   apply iU h <;> intro h
   ·obtain rfl := Qm h; exact (Frz.tuple' (.cons q4n p2))
   ·obtain rfl := Qm h; exact (Frz.tuple' (.cons q4 p2))
def Wl (R_amqvalue_Read : (List UInt8) → Int → Option (Q0 × Int × Int)) (R_amqvalue_Data : Int → (List UInt8) → Int → Option (Q0 × Int × Int)) (R_amqvalue_described : (List UInt8) → Int → Option (Q0 × Int × Int)) (R_amqvalue_sized : Qg → (List UInt8) → Int → Option (Q0 × Int × Int)) (N : Nat) (code : Int) (s_1 : List UInt8) (most : Int) : Option (Q0 × Int × Int) :=
 (X9 N most).bind fun v1 =>
 cond (!v1)
 (some ((⟨0, 0, [], []⟩ : Q0), 0, 2))
 ((Wd N code).bind fun v4 =>
 cond (!v4.2)
 (some ((⟨0, 0, [], []⟩ : Q0), 0, 8))
 (cond (!v4.1.Items)
 ((Uq N code s_1).bind fun v8 =>
 some (v8.1, v8.2.1, v8.2.2))
 (cond (Q5 .eql most 0)
 (some ((⟨0, 0, [], []⟩ : Q0), 0, 14))
 (cond (Q5 .eql v4.1.Kind 25)
 ((R_amqvalue_described s_1 most).bind fun v12 =>
 some (v12.1, v12.2.1, v12.2.2))
 (cond (!v4.1.Sized)
 (some ((⟨v4.1.Kind, 0, [], []⟩ : Q0), 0, 0))
 ((R_amqvalue_sized v4.1 s_1 most).bind fun v15 =>
 some (v15.1, v15.2.1, v15.2.2)))))))
theorem Q4d {R_amqvalue_Read : (List UInt8) → Int → Option (Q0 × Int × Int)} {R_amqvalue_Data : Int → (List UInt8) → Int → Option (Q0 × Int × Int)} {R_amqvalue_described : (List UInt8) → Int → Option (Q0 × Int × Int)} {R_amqvalue_sized : Qg → (List UInt8) → Int → Option (Q0 × Int × Int)} (hR_amqvalue_Read : ∀ {s_0} {most} {r}, R_amqvalue_Read s_0 most = some r → Y9 Tryd.prog G1 11 [.str s_0, .int .i64 most] (.tuple [.agg (Q0.cells r.1), .int .i64 r.2.1, .int .i64 r.2.2])) (hR_amqvalue_Data : ∀ {code} {s_1} {most} {r}, R_amqvalue_Data code s_1 most = some r → Y9 Tryd.prog G1 35 [.int .i64 code, .str s_1, .int .i64 most] (.tuple [.agg (Q0.cells r.1), .int .i64 r.2.1, .int .i64 r.2.2])) (hR_amqvalue_described : ∀ {s_0} {most} {r}, R_amqvalue_described s_0 most = some r → Y9 Tryd.prog G1 48 [.str s_0, .int .i64 most] (.tuple [.agg (Q0.cells r.1), .int .i64 r.2.1, .int .i64 r.2.2])) (hR_amqvalue_sized : ∀ {c} {s_1} {most} {r}, R_amqvalue_sized c s_1 most = some r → Y9 Tryd.prog G1 49 [.agg (Qg.cells c), .str s_1, .int .i64 most] (.tuple [.agg (Q0.cells r.1), .int .i64 r.2.1, .int .i64 r.2.2])) {N} {code} {s_1} {most} {r} (h : Wl R_amqvalue_Read R_amqvalue_Data R_amqvalue_described R_amqvalue_sized N code s_1 most = some r) : Y9 Tryd.prog G1 35 [.int .i64 code, .str s_1, .int .i64 most] (.tuple [.agg (Q0.cells r.1), .int .i64 r.2.1, .int .i64 r.2.2]) := by
 refine Q6 k35 ?_
 unfold Wl at h
 refine cP h Ur p1 fun v1 h => ?_
 apply iU h <;> intro h
 ·obtain rfl := Qm h; exact (Frz.tuple' (.cons q4n p2))
 ·refine cP h Uw p1 fun v4 h => ?_
  apply iU h <;> intro h
  ·obtain rfl := Qm h; exact (Frz.tuple' (.cons q4n p2))
  ·apply iU h <;> intro h
   ·refine cP h Q5t p2 fun v8 h => ?_
    obtain rfl := Qm h; exact (Frz.tuple' (.cons q4 p2))
   ·apply iU h <;> intro h
    ·obtain rfl := Qm h; exact (Frz.tuple' (.cons q4n p2))
    ·apply iU h <;> intro h
     ·refine cP h hR_amqvalue_described p2 fun v12 h => ?_
      obtain rfl := Qm h; exact (Frz.tuple' (.cons q4 p2))
     ·apply iU h <;> intro h
      ·obtain rfl := Qm h; exact (Frz.tuple' (.cons q4n p2))
      ·refine cP h hR_amqvalue_sized (.cons (Frz.agg' p5) p2) fun v15 h => ?_
       obtain rfl := Qm h; exact (Frz.tuple' (.cons q4 p2))
def Zs (R_amqvalue_Read : (List UInt8) → Int → Option (Q0 × Int × Int)) (N : Nat) (most : Int) : Nat → Int → (List UInt8) → Int → Int → (List Q0) → Option (Q0 × Int × Int)
 | 0, _, _, _, _, _ => none
 | n + 1, s27, c28, c29, c30, l31 =>
  cond (Q5 .lss s27 2)
  ((Qr N (⟨c28, c29, c30⟩ : Q1)).bind fun v33 =>
  (R_amqvalue_Read v33.1 (IntKind.wrap .i64 (most - 1))).bind fun v35 =>
  cond (Q5 .eql v35.2.2 0)
  ((Qi N v33.2 v35.2.1).bind fun v38 =>
  cond (Q5 .neq v35.2.2 0)
  (some ((⟨0, 0, [], []⟩ : Q0), 0, v35.2.2))
  (cond (Nat.ble ((l31.length + 1 + 4096) * 56) 17592186044416) (Zs R_amqvalue_Read N most n (IntKind.wrap .i64 (s27 + 1)) v38.2.text v38.2.at' v38.2.err (l31 ++ [v35.1])) none))
  (cond (Q5 .neq v35.2.2 0)
  (some ((⟨0, 0, [], []⟩ : Q0), 0, v35.2.2))
  (cond (Nat.ble ((l31.length + 1 + 4096) * 56) 17592186044416) (Zs R_amqvalue_Read N most n (IntKind.wrap .i64 (s27 + 1)) v33.2.text v33.2.at' v33.2.err (l31 ++ [v35.1])) none)))
  ((Qj N (⟨c28, c29, c30⟩ : Q1)).bind fun v44 =>
  some ((⟨25, 0, [], l31⟩ : Q0), v44.1, 0))
def W3 (R_amqvalue_Read : (List UInt8) → Int → Option (Q0 × Int × Int)) (R_amqvalue_Data : Int → (List UInt8) → Int → Option (Q0 × Int × Int)) (R_amqvalue_described : (List UInt8) → Int → Option (Q0 × Int × Int)) (R_amqvalue_sized : Qg → (List UInt8) → Int → Option (Q0 × Int × Int)) (N : Nat) (s_0 : List UInt8) (most : Int) : Option (Q0 × Int × Int) :=
 Zs R_amqvalue_Read N most N 0 s_0 0 0 []
theorem Q1a {R_amqvalue_Read : (List UInt8) → Int → Option (Q0 × Int × Int)} {R_amqvalue_Data : Int → (List UInt8) → Int → Option (Q0 × Int × Int)} {R_amqvalue_described : (List UInt8) → Int → Option (Q0 × Int × Int)} {R_amqvalue_sized : Qg → (List UInt8) → Int → Option (Q0 × Int × Int)} (hR_amqvalue_Read : ∀ {s_0} {most} {r}, R_amqvalue_Read s_0 most = some r → Y9 Tryd.prog G1 11 [.str s_0, .int .i64 most] (.tuple [.agg (Q0.cells r.1), .int .i64 r.2.1, .int .i64 r.2.2])) (hR_amqvalue_Data : ∀ {code} {s_1} {most} {r}, R_amqvalue_Data code s_1 most = some r → Y9 Tryd.prog G1 35 [.int .i64 code, .str s_1, .int .i64 most] (.tuple [.agg (Q0.cells r.1), .int .i64 r.2.1, .int .i64 r.2.2])) (hR_amqvalue_described : ∀ {s_0} {most} {r}, R_amqvalue_described s_0 most = some r → Y9 Tryd.prog G1 48 [.str s_0, .int .i64 most] (.tuple [.agg (Q0.cells r.1), .int .i64 r.2.1, .int .i64 r.2.2])) (hR_amqvalue_sized : ∀ {c} {s_1} {most} {r}, R_amqvalue_sized c s_1 most = some r → Y9 Tryd.prog G1 49 [.agg (Qg.cells c), .str s_1, .int .i64 most] (.tuple [.agg (Q0.cells r.1), .int .i64 r.2.1, .int .i64 r.2.2])) {N} {s_0} {most} {r} (h : W3 R_amqvalue_Read R_amqvalue_Data R_amqvalue_described R_amqvalue_sized N s_0 most = some r) : Y9 Tryd.prog G1 48 [.str s_0, .int .i64 most] (.tuple [.agg (Q0.cells r.1), .int .i64 r.2.1, .int .i64 r.2.2]) := by
 refine Q6 k48 ?_
 unfold W3 at h
 refine Jr k67 ?_
 refine lpC (τ := Int × (List UInt8) × Int × Int × (List Q0)) (fun ⟨s27, _, _, _, _⟩ => (a4 (.ptr 0 0 :: .any :: .any :: .ptr 2 0 :: a8 (iI s27 :: a16 (a4 (.any :: [])))) : List AV)) (fun ⟨_, c28, c29, c30, l31⟩ => (.cells (iI 25 :: iW 0 :: iS [] :: .slice 4 3 0 l31.length :: []) :: .cells (iS c28 :: iI c29 :: iI c30 :: []) :: .cells (.ptr 1 0 :: iI (IntKind.wrap .i64 (most - 1)) :: []) :: .cells (Ud Q0.cells l31) :: [] : List AObj)) (fun n0 ⟨s27, c28, c29, c30, l31⟩ => Zs R_amqvalue_Read N most n0 s27 c28 c29 c30 l31) (0, s_0, 0, 0, []) h (fun i => i) ⟨(rV <| rE rfl <| rW <| rE rfl <| rX <| rE rfl <| rX <| rX <| rV <| rA <| rN), (hC rfl (rE rfl <| rE rfl <| rE rfl <| rS <| rN) <| hE rfl <| hE rfl <| hV lb <| hN), rfl, rfl, (roE rfl <| roE rfl <| roE rfl <| roE (Qp _ _ _) <| roN)⟩ fun n0 ⟨s27, c28, c29, c30, l31⟩ h => ?_
 simp only [Zs] at h
 apply iU h <;> intro h
 ·refine Jr k75 ?_
  refine ifT (by unfold Q5; decide) ?_
  refine Qd ?_
  refine dM h Zk rfl p0 fun v33 h => ?_
  refine cD h hR_amqvalue_Read p2 fun v35 h => ?_
  apply iU h <;> intro h
  ·refine cM h Qq rfl p1 fun v38 h => ?_
   apply iU h <;> intro h
   ·obtain rfl := Qm h; exact (Frz.tuple' (.cons q4n p2))
   ·obtain ⟨hk41, h⟩ := Q81 h
    refine Q3m (V2 (c := Q0.cells) (e := 4) (fun _ => rfl) (by simp) hk41) ?_
    refine Uh (c := Q0.cells) [v35.1] rfl ?_
    show Exists _
    exact ⟨(n0, (IntKind.wrap .i64 (s27 + 1)), v38.2.text, v38.2.at', v38.2.err, (l31 ++ [v35.1])), h, Nat.lt_succ_self _, (rho [0, 1, 2, 9]), ⟨(rV <| rE rfl <| rW <| rE rfl <| rX <| rE rfl <| rX <| rX <| rV <| rA <| rN), (hC rfl (rE rfl <| rE rfl <| rE rfl <| rL (by simp) rfl <| rN) <| hE rfl <| hE rfl <| hO rfl <| hN), rfl, rfl, (roE rfl <| roE rfl <| roE rfl <| roE (Qp _ _ _) <| roN)⟩⟩
  ·apply iU h <;> intro h
   ·obtain rfl := Qm h; exact (Frz.tuple' (.cons q4n p2))
   ·obtain ⟨hk43, h⟩ := Q81 h
    refine Q3m (V2 (c := Q0.cells) (e := 4) (fun _ => rfl) (by simp) hk43) ?_
    refine Uh (c := Q0.cells) [v35.1] rfl ?_
    show Exists _
    exact ⟨(n0, (IntKind.wrap .i64 (s27 + 1)), v33.2.text, v33.2.at', v33.2.err, (l31 ++ [v35.1])), h, Nat.lt_succ_self _, (rho [0, 1, 2, 9]), ⟨(rV <| rE rfl <| rW <| rE rfl <| rX <| rE rfl <| rX <| rX <| rV <| rA <| rN), (hC rfl (rE rfl <| rE rfl <| rE rfl <| rL (by simp) rfl <| rN) <| hE rfl <| hE rfl <| hO rfl <| hN), rfl, rfl, (roE rfl <| roE rfl <| roE rfl <| roE (Qp _ _ _) <| roN)⟩⟩
 ·refine Qd ?_
  refine dM h Zm rfl p0 fun v44 h => ?_
  obtain rfl := Qm h; exact (Frz.tuple' (.cons (Frz.agg' (.cons (.p _) (.cons (.p _) (.cons (.p _) (.cons (Q0.frz_own (l := l31) rfl trivial (by simp)) .nil))))) p2))
def Yw (R_amqvalue_Read : (List UInt8) → Int → Option (Q0 × Int × Int)) (R_amqvalue_Data : Int → (List UInt8) → Int → Option (Q0 × Int × Int)) (N : Nat) (c : Qg) (most : Int) (v9 : (List UInt8) × Q1) (v11 : (Int) × Q1) (v23 : (Int) × Q1) (v25 : Qg × Bool) : Nat → Int → (List UInt8) → Int → Int → (List Q0) → Option (Q0 × Int × Int)
 | 0, _, _, _, _, _ => none
 | n + 1, s86, c87, c88, c89, l90 =>
  cond (Q5 .lss s86 v11.1)
  (cond (Q5 .lss (IntKind.wrap .i64 v23.1) 0)
  ((Qr N (⟨c87, c88, c89⟩ : Q1)).bind fun v93 =>
  (R_amqvalue_Read v93.1 (IntKind.wrap .i64 (most - 1))).bind fun v95 =>
  cond (Q5 .eql v95.2.2 0)
  ((Qi N v93.2 v95.2.1).bind fun v98 =>
  cond (Q5 .eql v95.2.2 3)
  (some ((⟨0, 0, [], []⟩ : Q0), 0, 5))
  (cond (Q5 .neq v95.2.2 0)
  (some ((⟨0, 0, [], []⟩ : Q0), 0, v95.2.2))
  (cond (Nat.ble ((l90.length + 1 + 4096) * 56) 17592186044416) (Yw R_amqvalue_Read R_amqvalue_Data N c most v9 v11 v23 v25 n (IntKind.wrap .u64 (s86 + 1)) v98.2.text v98.2.at' v98.2.err (l90 ++ [v95.1])) none)))
  (cond (Q5 .eql v95.2.2 3)
  (some ((⟨0, 0, [], []⟩ : Q0), 0, 5))
  (cond (Q5 .neq v95.2.2 0)
  (some ((⟨0, 0, [], []⟩ : Q0), 0, v95.2.2))
  (cond (Nat.ble ((l90.length + 1 + 4096) * 56) 17592186044416) (Yw R_amqvalue_Read R_amqvalue_Data N c most v9 v11 v23 v25 n (IntKind.wrap .u64 (s86 + 1)) v93.2.text v93.2.at' v93.2.err (l90 ++ [v95.1])) none))))
  ((Qr N (⟨c87, c88, c89⟩ : Q1)).bind fun v106 =>
  (R_amqvalue_Data (IntKind.wrap .i64 v23.1) v106.1 (IntKind.wrap .i64 (most - 1))).bind fun v108 =>
  cond (Q5 .eql v108.2.2 0)
  ((Qi N v106.2 v108.2.1).bind fun v111 =>
  cond (Q5 .eql v108.2.2 3)
  (some ((⟨0, 0, [], []⟩ : Q0), 0, 5))
  (cond (Q5 .neq v108.2.2 0)
  (some ((⟨0, 0, [], []⟩ : Q0), 0, v108.2.2))
  (cond (Nat.ble ((l90.length + 1 + 4096) * 56) 17592186044416) (Yw R_amqvalue_Read R_amqvalue_Data N c most v9 v11 v23 v25 n (IntKind.wrap .u64 (s86 + 1)) v111.2.text v111.2.at' v111.2.err (l90 ++ [v108.1])) none)))
  (cond (Q5 .eql v108.2.2 3)
  (some ((⟨0, 0, [], []⟩ : Q0), 0, 5))
  (cond (Q5 .neq v108.2.2 0)
  (some ((⟨0, 0, [], []⟩ : Q0), 0, v108.2.2))
  (cond (Nat.ble ((l90.length + 1 + 4096) * 56) 17592186044416) (Yw R_amqvalue_Read R_amqvalue_Data N c most v9 v11 v23 v25 n (IntKind.wrap .u64 (s86 + 1)) v106.2.text v106.2.at' v106.2.err (l90 ++ [v108.1])) none)))))
  ((Qs N (⟨c87, c88, c89⟩ : Q1)).bind fun v119 =>
  cond (Q5 .neq v119.1 0)
  (some ((⟨0, 0, [], []⟩ : Q0), 0, 5))
  ((Xw N (⟨c.Kind, (IntKind.wrap .u64 v25.1.Kind), [], l90⟩ : Q0)).bind fun v122 =>
  cond (Q5 .neq v122 0)
  (some ((⟨0, 0, [], []⟩ : Q0), 0, v122))
  ((Qj N v9.2).bind fun v125 =>
  some ((⟨c.Kind, (IntKind.wrap .u64 v25.1.Kind), [], l90⟩ : Q0), v125.1, 0))))
def Yz (R_amqvalue_Read : (List UInt8) → Int → Option (Q0 × Int × Int)) (N : Nat) (c : Qg) (most : Int) (v9 : (List UInt8) × Q1) (v11 : (Int) × Q1) : Nat → Int → (List UInt8) → Int → Int → (List Q0) → Option (Q0 × Int × Int)
 | 0, _, _, _, _, _ => none
 | n + 1, s158, c159, c160, c161, l162 =>
  cond (Q5 .lss s158 v11.1)
  ((Qr N (⟨c159, c160, c161⟩ : Q1)).bind fun v164 =>
  (R_amqvalue_Read v164.1 (IntKind.wrap .i64 (most - 1))).bind fun v166 =>
  cond (Q5 .eql v166.2.2 0)
  ((Qi N v164.2 v166.2.1).bind fun v169 =>
  cond (Q5 .eql v166.2.2 3)
  (some ((⟨0, 0, [], []⟩ : Q0), 0, 5))
  (cond (Q5 .neq v166.2.2 0)
  (some ((⟨0, 0, [], []⟩ : Q0), 0, v166.2.2))
  (cond (Nat.ble ((l162.length + 1 + 4096) * 56) 17592186044416) (Yz R_amqvalue_Read N c most v9 v11 n (IntKind.wrap .u64 (s158 + 1)) v169.2.text v169.2.at' v169.2.err (l162 ++ [v166.1])) none)))
  (cond (Q5 .eql v166.2.2 3)
  (some ((⟨0, 0, [], []⟩ : Q0), 0, 5))
  (cond (Q5 .neq v166.2.2 0)
  (some ((⟨0, 0, [], []⟩ : Q0), 0, v166.2.2))
  (cond (Nat.ble ((l162.length + 1 + 4096) * 56) 17592186044416) (Yz R_amqvalue_Read N c most v9 v11 n (IntKind.wrap .u64 (s158 + 1)) v164.2.text v164.2.at' v164.2.err (l162 ++ [v166.1])) none))))
  ((Qs N (⟨c159, c160, c161⟩ : Q1)).bind fun v177 =>
  cond (Q5 .neq v177.1 0)
  (some ((⟨0, 0, [], []⟩ : Q0), 0, 5))
  ((Xw N (⟨c.Kind, 0, [], l162⟩ : Q0)).bind fun v180 =>
  cond (Q5 .neq v180 0)
  (some ((⟨0, 0, [], []⟩ : Q0), 0, v180))
  ((Qj N v9.2).bind fun v183 =>
  some ((⟨c.Kind, 0, [], l162⟩ : Q0), v183.1, 0))))
def Zi (R_amqvalue_Read : (List UInt8) → Int → Option (Q0 × Int × Int)) (R_amqvalue_Data : Int → (List UInt8) → Int → Option (Q0 × Int × Int)) (N : Nat) (c : Qg) (most : Int) (v9 : (List UInt8) × Q1) (v11 : (Int) × Q1) (v189 : (Int) × Q1) (v191 : Qg × Bool) : Nat → Int → (List UInt8) → Int → Int → (List Q0) → Option (Q0 × Int × Int)
 | 0, _, _, _, _, _ => none
 | n + 1, s252, c253, c254, c255, l256 =>
  cond (Q5 .lss s252 v11.1)
  (cond (Q5 .lss (IntKind.wrap .i64 v189.1) 0)
  ((Qr N (⟨c253, c254, c255⟩ : Q1)).bind fun v259 =>
  (R_amqvalue_Read v259.1 (IntKind.wrap .i64 (most - 1))).bind fun v261 =>
  cond (Q5 .eql v261.2.2 0)
  ((Qi N v259.2 v261.2.1).bind fun v264 =>
  cond (Q5 .eql v261.2.2 3)
  (some ((⟨0, 0, [], []⟩ : Q0), 0, 5))
  (cond (Q5 .neq v261.2.2 0)
  (some ((⟨0, 0, [], []⟩ : Q0), 0, v261.2.2))
  (cond (Nat.ble ((l256.length + 1 + 4096) * 56) 17592186044416) (Zi R_amqvalue_Read R_amqvalue_Data N c most v9 v11 v189 v191 n (IntKind.wrap .u64 (s252 + 1)) v264.2.text v264.2.at' v264.2.err (l256 ++ [v261.1])) none)))
  (cond (Q5 .eql v261.2.2 3)
  (some ((⟨0, 0, [], []⟩ : Q0), 0, 5))
  (cond (Q5 .neq v261.2.2 0)
  (some ((⟨0, 0, [], []⟩ : Q0), 0, v261.2.2))
  (cond (Nat.ble ((l256.length + 1 + 4096) * 56) 17592186044416) (Zi R_amqvalue_Read R_amqvalue_Data N c most v9 v11 v189 v191 n (IntKind.wrap .u64 (s252 + 1)) v259.2.text v259.2.at' v259.2.err (l256 ++ [v261.1])) none))))
  ((Qr N (⟨c253, c254, c255⟩ : Q1)).bind fun v272 =>
  (R_amqvalue_Data (IntKind.wrap .i64 v189.1) v272.1 (IntKind.wrap .i64 (most - 1))).bind fun v274 =>
  cond (Q5 .eql v274.2.2 0)
  ((Qi N v272.2 v274.2.1).bind fun v277 =>
  cond (Q5 .eql v274.2.2 3)
  (some ((⟨0, 0, [], []⟩ : Q0), 0, 5))
  (cond (Q5 .neq v274.2.2 0)
  (some ((⟨0, 0, [], []⟩ : Q0), 0, v274.2.2))
  (cond (Nat.ble ((l256.length + 1 + 4096) * 56) 17592186044416) (Zi R_amqvalue_Read R_amqvalue_Data N c most v9 v11 v189 v191 n (IntKind.wrap .u64 (s252 + 1)) v277.2.text v277.2.at' v277.2.err (l256 ++ [v274.1])) none)))
  (cond (Q5 .eql v274.2.2 3)
  (some ((⟨0, 0, [], []⟩ : Q0), 0, 5))
  (cond (Q5 .neq v274.2.2 0)
  (some ((⟨0, 0, [], []⟩ : Q0), 0, v274.2.2))
  (cond (Nat.ble ((l256.length + 1 + 4096) * 56) 17592186044416) (Zi R_amqvalue_Read R_amqvalue_Data N c most v9 v11 v189 v191 n (IntKind.wrap .u64 (s252 + 1)) v272.2.text v272.2.at' v272.2.err (l256 ++ [v274.1])) none)))))
  ((Qs N (⟨c253, c254, c255⟩ : Q1)).bind fun v285 =>
  cond (Q5 .neq v285.1 0)
  (some ((⟨0, 0, [], []⟩ : Q0), 0, 5))
  ((Xw N (⟨c.Kind, (IntKind.wrap .u64 v191.1.Kind), [], l256⟩ : Q0)).bind fun v288 =>
  cond (Q5 .neq v288 0)
  (some ((⟨0, 0, [], []⟩ : Q0), 0, v288))
  ((Qj N v9.2).bind fun v291 =>
  some ((⟨c.Kind, (IntKind.wrap .u64 v191.1.Kind), [], l256⟩ : Q0), v291.1, 0))))
def Yx (R_amqvalue_Read : (List UInt8) → Int → Option (Q0 × Int × Int)) (N : Nat) (c : Qg) (most : Int) (v9 : (List UInt8) × Q1) (v11 : (Int) × Q1) : Nat → Int → (List UInt8) → Int → Int → (List Q0) → Option (Q0 × Int × Int)
 | 0, _, _, _, _, _ => none
 | n + 1, s324, c325, c326, c327, l328 =>
  cond (Q5 .lss s324 v11.1)
  ((Qr N (⟨c325, c326, c327⟩ : Q1)).bind fun v330 =>
  (R_amqvalue_Read v330.1 (IntKind.wrap .i64 (most - 1))).bind fun v332 =>
  cond (Q5 .eql v332.2.2 0)
  ((Qi N v330.2 v332.2.1).bind fun v335 =>
  cond (Q5 .eql v332.2.2 3)
  (some ((⟨0, 0, [], []⟩ : Q0), 0, 5))
  (cond (Q5 .neq v332.2.2 0)
  (some ((⟨0, 0, [], []⟩ : Q0), 0, v332.2.2))
  (cond (Nat.ble ((l328.length + 1 + 4096) * 56) 17592186044416) (Yx R_amqvalue_Read N c most v9 v11 n (IntKind.wrap .u64 (s324 + 1)) v335.2.text v335.2.at' v335.2.err (l328 ++ [v332.1])) none)))
  (cond (Q5 .eql v332.2.2 3)
  (some ((⟨0, 0, [], []⟩ : Q0), 0, 5))
  (cond (Q5 .neq v332.2.2 0)
  (some ((⟨0, 0, [], []⟩ : Q0), 0, v332.2.2))
  (cond (Nat.ble ((l328.length + 1 + 4096) * 56) 17592186044416) (Yx R_amqvalue_Read N c most v9 v11 n (IntKind.wrap .u64 (s324 + 1)) v330.2.text v330.2.at' v330.2.err (l328 ++ [v332.1])) none))))
  ((Qs N (⟨c325, c326, c327⟩ : Q1)).bind fun v343 =>
  cond (Q5 .neq v343.1 0)
  (some ((⟨0, 0, [], []⟩ : Q0), 0, 5))
  ((Xw N (⟨c.Kind, 0, [], l328⟩ : Q0)).bind fun v346 =>
  cond (Q5 .neq v346 0)
  (some ((⟨0, 0, [], []⟩ : Q0), 0, v346))
  ((Qj N v9.2).bind fun v349 =>
  some ((⟨c.Kind, 0, [], l328⟩ : Q0), v349.1, 0))))
def Wr (R_amqvalue_Read : (List UInt8) → Int → Option (Q0 × Int × Int)) (R_amqvalue_Data : Int → (List UInt8) → Int → Option (Q0 × Int × Int)) (R_amqvalue_described : (List UInt8) → Int → Option (Q0 × Int × Int)) (R_amqvalue_sized : Qg → (List UInt8) → Int → Option (Q0 × Int × Int)) (N : Nat) (c : Qg) (s_1 : List UInt8) (most : Int) : Option (Q0 × Int × Int) :=
 (Qn N (⟨s_1, 0, 0⟩ : Q1) c.Width).bind fun v1 =>
 (Qe N v1.2).bind fun v3 =>
 cond (Q5 .neq v3.1 0)
 (some ((⟨0, 0, [], []⟩ : Q0), 0, 3))
 ((Qs N v3.2).bind fun v6 =>
 cond (Q5 .gtr v1.1 (IntKind.wrap .u64 v6.1))
 (some ((⟨0, 0, [], []⟩ : Q0), 0, 3))
 ((Qi N v6.2 (IntKind.wrap .i64 v1.1)).bind fun v9 =>
 (Qn N (⟨v9.1, 0, 0⟩ : Q1) c.Width).bind fun v11 =>
 (Qe N v11.2).bind fun v13 =>
 cond (Q5 .neq v13.1 0)
 (some ((⟨0, 0, [], []⟩ : Q0), 0, 5))
 (cond (Q5 .gtr v11.1 1000)
 (some ((⟨0, 0, [], []⟩ : Q0), 0, 4))
 (cond (Q5 .eql c.Kind 23)
 (cond (Q5 .neq ((v11.1 : Int).tmod 2) 0)
 (some ((⟨0, 0, [], []⟩ : Q0), 0, 5))
 (cond (Q5 .eql c.Kind 24)
 ((Qs N v13.2).bind fun v20 =>
 cond (Q5 .eql v20.1 0)
 (some ((⟨0, 0, [], []⟩ : Q0), 0, 5))
 ((Qn N v20.2 1).bind fun v23 =>
 (Wd N (IntKind.wrap .i64 v23.1)).bind fun v25 =>
 cond (!v25.2)
 (some ((⟨0, 0, [], []⟩ : Q0), 0, 8))
 (cond (Q5 .eql (IntKind.wrap .i64 v23.1) 0)
 (some ((⟨0, 0, [], []⟩ : Q0), 0, 8))
 (Yw R_amqvalue_Read R_amqvalue_Data N c most v9 v11 v23 v25 N 0 v23.2.text v23.2.at' v23.2.err []))))
 (Yz R_amqvalue_Read N c most v9 v11 N 0 v13.2.text v13.2.at' v13.2.err [])))
 (cond (Q5 .eql c.Kind 24)
 ((Qs N v13.2).bind fun v186 =>
 cond (Q5 .eql v186.1 0)
 (some ((⟨0, 0, [], []⟩ : Q0), 0, 5))
 ((Qn N v186.2 1).bind fun v189 =>
 (Wd N (IntKind.wrap .i64 v189.1)).bind fun v191 =>
 cond (!v191.2)
 (some ((⟨0, 0, [], []⟩ : Q0), 0, 8))
 (cond (Q5 .eql (IntKind.wrap .i64 v189.1) 0)
 (some ((⟨0, 0, [], []⟩ : Q0), 0, 8))
 (Zi R_amqvalue_Read R_amqvalue_Data N c most v9 v11 v189 v191 N 0 v189.2.text v189.2.at' v189.2.err []))))
 (Yx R_amqvalue_Read N c most v9 v11 N 0 v13.2.text v13.2.at' v13.2.err []))))))
theorem Q35 {R_amqvalue_Read : (List UInt8) → Int → Option (Q0 × Int × Int)} {R_amqvalue_Data : Int → (List UInt8) → Int → Option (Q0 × Int × Int)} {R_amqvalue_described : (List UInt8) → Int → Option (Q0 × Int × Int)} {R_amqvalue_sized : Qg → (List UInt8) → Int → Option (Q0 × Int × Int)} (hR_amqvalue_Read : ∀ {s_0} {most} {r}, R_amqvalue_Read s_0 most = some r → Y9 Tryd.prog G1 11 [.str s_0, .int .i64 most] (.tuple [.agg (Q0.cells r.1), .int .i64 r.2.1, .int .i64 r.2.2])) (hR_amqvalue_Data : ∀ {code} {s_1} {most} {r}, R_amqvalue_Data code s_1 most = some r → Y9 Tryd.prog G1 35 [.int .i64 code, .str s_1, .int .i64 most] (.tuple [.agg (Q0.cells r.1), .int .i64 r.2.1, .int .i64 r.2.2])) (hR_amqvalue_described : ∀ {s_0} {most} {r}, R_amqvalue_described s_0 most = some r → Y9 Tryd.prog G1 48 [.str s_0, .int .i64 most] (.tuple [.agg (Q0.cells r.1), .int .i64 r.2.1, .int .i64 r.2.2])) (hR_amqvalue_sized : ∀ {c} {s_1} {most} {r}, R_amqvalue_sized c s_1 most = some r → Y9 Tryd.prog G1 49 [.agg (Qg.cells c), .str s_1, .int .i64 most] (.tuple [.agg (Q0.cells r.1), .int .i64 r.2.1, .int .i64 r.2.2])) {N} {c} {s_1} {most} {r} (h : Wr R_amqvalue_Read R_amqvalue_Data R_amqvalue_described R_amqvalue_sized N c s_1 most = some r) : Y9 Tryd.prog G1 49 [.agg (Qg.cells c), .str s_1, .int .i64 most] (.tuple [.agg (Q0.cells r.1), .int .i64 r.2.1, .int .i64 r.2.2]) := by
 refine Q6 k49 ?_
 unfold Wr at h
 refine Jr k67 ?_
 refine cM h Zx rfl p1 fun v1 h => ?_
 refine cM h Z2 rfl p0 fun v3 h => ?_
 apply iU h <;> intro h
 ·obtain rfl := Qm h; exact (Frz.tuple' (.cons q4n p2))
 ·refine cM h Zj rfl p0 fun v6 h => ?_
  apply iU h <;> intro h
  ·obtain rfl := Qm h; exact (Frz.tuple' (.cons q4n p2))
  ·refine cM h Qq rfl p1 fun v9 h => ?_
   refine Jr k67 ?_
   refine cM h Zx rfl p1 fun v11 h => ?_
   refine cM h Z2 rfl p0 fun v13 h => ?_
   apply iU h <;> intro h
   ·obtain rfl := Qm h; exact (Frz.tuple' (.cons q4n p2))
   ·apply iU h <;> intro h
    ·obtain rfl := Qm h; exact (Frz.tuple' (.cons q4n p2))
    ·apply iU h <;> intro h
     ·apply iU h <;> intro h
      ·obtain rfl := Qm h; exact (Frz.tuple' (.cons q4n p2))
      ·apply iU h <;> intro h
       ·refine cM h Zj rfl p0 fun v20 h => ?_
        apply iU h <;> intro h
        ·obtain rfl := Qm h; exact (Frz.tuple' (.cons q4n p2))
        ·refine cM h Zx rfl p1 fun v23 h => ?_
         refine cP h Uw p1 fun v25 h => ?_
         apply iU h <;> intro h
         ·obtain rfl := Qm h; exact (Frz.tuple' (.cons q4n p2))
         ·apply iU h <;> intro h
          ·obtain rfl := Qm h; exact (Frz.tuple' (.cons q4n p2))
          ·refine lpC (τ := Int × (List UInt8) × Int × Int × (List Q0)) (fun ⟨s86, _, _, _, _⟩ => (a4 (a2 (.ptr 1 0 :: .any :: .any :: .ptr 2 0 :: .any :: .ptr 4 0 :: .any :: iI (IntKind.wrap .i64 v23.1) :: a16 (a16 (a16 (a16 (a16 (a2 (.any :: iW v11.1 :: iW s86 :: a16 (a16 (a2 ([]))))))))))) : List AV)) (fun ⟨_, c87, c88, c89, l90⟩ => (.cells (iI c.Code :: iI c.Kind :: iI c.Width :: .p (.bool c.Sized) :: .p (.bool c.Items) :: []) :: .cells (iI c.Kind :: iW (IntKind.wrap .u64 v25.1.Kind) :: iS [] :: .slice 4 6 0 l90.length :: []) :: .cells (iS v9.2.text :: iI v9.2.at' :: iI v9.2.err :: []) :: .cells (iS c87 :: iI c88 :: iI c89 :: []) :: .cells (.ptr 3 0 :: iI (IntKind.wrap .i64 (most - 1)) :: []) :: .cells (iI v25.1.Code :: iI v25.1.Kind :: iI v25.1.Width :: .p (.bool v25.1.Sized) :: .p (.bool v25.1.Items) :: []) :: .cells (Ud Q0.cells l90) :: [] : List AObj)) (fun n0 ⟨s86, c87, c88, c89, l90⟩ => Yw R_amqvalue_Read R_amqvalue_Data N c most v9 v11 v23 v25 n0 s86 c87 c88 c89 l90) (0, v23.2.text, v23.2.at', v23.2.err, []) h (fun i => i) ⟨(rV <| rW <| rE rfl <| rW <| rE rfl <| rA <| rE rfl <| rA <| rE rfl <| rX <| rX <| rX <| rX <| rX <| rX <| rX <| rX <| rX <| rX <| rW <| rA <| rE rfl <| rE rfl <| rX <| rX <| rX <| rX <| rW <| rN), (hE rfl <| hC rfl (rE rfl <| rE rfl <| rE rfl <| rS <| rN) <| hE rfl <| hE rfl <| hE rfl <| hE rfl <| hV lb <| hN), rfl, rfl, (roE rfl <| roE rfl <| roE rfl <| roE rfl <| roE rfl <| roE rfl <| roE (Qp _ _ _) <| roN)⟩ fun n0 ⟨s86, c87, c88, c89, l90⟩ h => ?_
           simp only [Yw] at h
           apply iU h <;> intro h
           ·refine Jr k75 ?_
            apply iU h <;> intro h
            ·refine Qd ?_
             refine dM h Zk rfl p0 fun v93 h => ?_
             refine cD h hR_amqvalue_Read p2 fun v95 h => ?_
             apply iU h <;> intro h
             ·refine cM h Qq rfl p1 fun v98 h => ?_
              apply iU h <;> intro h
              ·refine ifT (by unfold Q5; decide) ?_
               obtain rfl := Qm h; exact (Frz.tuple' (.cons q4n p2))
              ·apply iU h <;> intro h
               ·obtain rfl := Qm h; exact (Frz.tuple' (.cons q4n p2))
               ·obtain ⟨hk102, h⟩ := Q81 h
                refine Q3m (V2 (c := Q0.cells) (e := 4) (fun _ => rfl) (by simp) hk102) ?_
                refine Uh (c := Q0.cells) [v95.1] rfl ?_
                show Exists _
                exact ⟨(n0, (IntKind.wrap .u64 (s86 + 1)), v98.2.text, v98.2.at', v98.2.err, (l90 ++ [v95.1])), h, Nat.lt_succ_self _, (rho [0, 1, 2, 3, 4, 5, 12]), ⟨(rV <| rW <| rE rfl <| rW <| rE rfl <| rA <| rE rfl <| rA <| rE rfl <| rX <| rX <| rX <| rX <| rX <| rX <| rX <| rX <| rX <| rX <| rW <| rA <| rE rfl <| rE rfl <| rX <| rX <| rX <| rX <| rW <| rN), (hE rfl <| hC rfl (rE rfl <| rE rfl <| rE rfl <| rL (by simp) rfl <| rN) <| hE rfl <| hE rfl <| hE rfl <| hE rfl <| hO rfl <| hN), rfl, rfl, (roE rfl <| roE rfl <| roE rfl <| roE rfl <| roE rfl <| roE rfl <| roE (Qp _ _ _) <| roN)⟩⟩
             ·apply iU h <;> intro h
              ·refine ifT (by unfold Q5; decide) ?_
               obtain rfl := Qm h; exact (Frz.tuple' (.cons q4n p2))
              ·apply iU h <;> intro h
               ·obtain rfl := Qm h; exact (Frz.tuple' (.cons q4n p2))
               ·obtain ⟨hk105, h⟩ := Q81 h
                refine Q3m (V2 (c := Q0.cells) (e := 4) (fun _ => rfl) (by simp) hk105) ?_
                refine Uh (c := Q0.cells) [v95.1] rfl ?_
                show Exists _
                exact ⟨(n0, (IntKind.wrap .u64 (s86 + 1)), v93.2.text, v93.2.at', v93.2.err, (l90 ++ [v95.1])), h, Nat.lt_succ_self _, (rho [0, 1, 2, 3, 4, 5, 12]), ⟨(rV <| rW <| rE rfl <| rW <| rE rfl <| rA <| rE rfl <| rA <| rE rfl <| rX <| rX <| rX <| rX <| rX <| rX <| rX <| rX <| rX <| rX <| rW <| rA <| rE rfl <| rE rfl <| rX <| rX <| rX <| rX <| rW <| rN), (hE rfl <| hC rfl (rE rfl <| rE rfl <| rE rfl <| rL (by simp) rfl <| rN) <| hE rfl <| hE rfl <| hE rfl <| hE rfl <| hO rfl <| hN), rfl, rfl, (roE rfl <| roE rfl <| roE rfl <| roE rfl <| roE rfl <| roE rfl <| roE (Qp _ _ _) <| roN)⟩⟩
            ·refine Qd ?_
             refine dM h Zk rfl p0 fun v106 h => ?_
             refine cD h hR_amqvalue_Data p3 fun v108 h => ?_
             apply iU h <;> intro h
             ·refine cM h Qq rfl p1 fun v111 h => ?_
              apply iU h <;> intro h
              ·refine ifT (by unfold Q5; decide) ?_
               obtain rfl := Qm h; exact (Frz.tuple' (.cons q4n p2))
              ·apply iU h <;> intro h
               ·obtain rfl := Qm h; exact (Frz.tuple' (.cons q4n p2))
               ·obtain ⟨hk115, h⟩ := Q81 h
                refine Q3m (V2 (c := Q0.cells) (e := 4) (fun _ => rfl) (by simp) hk115) ?_
                refine Uh (c := Q0.cells) [v108.1] rfl ?_
                show Exists _
                exact ⟨(n0, (IntKind.wrap .u64 (s86 + 1)), v111.2.text, v111.2.at', v111.2.err, (l90 ++ [v108.1])), h, Nat.lt_succ_self _, (rho [0, 1, 2, 3, 4, 5, 12]), ⟨(rV <| rW <| rE rfl <| rW <| rE rfl <| rA <| rE rfl <| rA <| rE rfl <| rX <| rX <| rX <| rX <| rX <| rX <| rX <| rX <| rX <| rX <| rW <| rA <| rE rfl <| rE rfl <| rX <| rX <| rX <| rX <| rW <| rN), (hE rfl <| hC rfl (rE rfl <| rE rfl <| rE rfl <| rL (by simp) rfl <| rN) <| hE rfl <| hE rfl <| hE rfl <| hE rfl <| hO rfl <| hN), rfl, rfl, (roE rfl <| roE rfl <| roE rfl <| roE rfl <| roE rfl <| roE rfl <| roE (Qp _ _ _) <| roN)⟩⟩
             ·apply iU h <;> intro h
              ·refine ifT (by unfold Q5; decide) ?_
               obtain rfl := Qm h; exact (Frz.tuple' (.cons q4n p2))
              ·apply iU h <;> intro h
               ·obtain rfl := Qm h; exact (Frz.tuple' (.cons q4n p2))
               ·obtain ⟨hk118, h⟩ := Q81 h
                refine Q3m (V2 (c := Q0.cells) (e := 4) (fun _ => rfl) (by simp) hk118) ?_
                refine Uh (c := Q0.cells) [v108.1] rfl ?_
                show Exists _
                exact ⟨(n0, (IntKind.wrap .u64 (s86 + 1)), v106.2.text, v106.2.at', v106.2.err, (l90 ++ [v108.1])), h, Nat.lt_succ_self _, (rho [0, 1, 2, 3, 4, 5, 12]), ⟨(rV <| rW <| rE rfl <| rW <| rE rfl <| rA <| rE rfl <| rA <| rE rfl <| rX <| rX <| rX <| rX <| rX <| rX <| rX <| rX <| rX <| rX <| rW <| rA <| rE rfl <| rE rfl <| rX <| rX <| rX <| rX <| rW <| rN), (hE rfl <| hC rfl (rE rfl <| rE rfl <| rE rfl <| rL (by simp) rfl <| rN) <| hE rfl <| hE rfl <| hE rfl <| hE rfl <| hO rfl <| hN), rfl, rfl, (roE rfl <| roE rfl <| roE rfl <| roE rfl <| roE rfl <| roE rfl <| roE (Qp _ _ _) <| roN)⟩⟩
           ·refine cM h Zj rfl p0 fun v119 h => ?_
            apply iU h <;> intro h
            ·obtain rfl := Qm h; exact (Frz.tuple' (.cons q4n p2))
            ·refine cK h Vf (.cons (Frz.agg' (.cons (.p _) (.cons (.p _) (.cons (.p _) (.cons (Q0.frz_own (l := l90) rfl trivial (by simp)) .nil))))) .nil) fun v122 h => ?_
             apply iU h <;> intro h
             ·obtain rfl := Qm h; exact (Frz.tuple' (.cons q4n p2))
             ·refine Qd ?_
              refine dM h Zm rfl p0 fun v125 h => ?_
              obtain rfl := Qm h; exact (Frz.tuple' (.cons (Frz.agg' (.cons (.p _) (.cons (.p _) (.cons (.p _) (.cons (Q0.frz_own (l := l90) rfl trivial (by simp)) .nil))))) p2))
       ·refine lpC (τ := Int × (List UInt8) × Int × Int × (List Q0)) (fun ⟨s158, _, _, _, _⟩ => (a4 (a2 (.ptr 1 0 :: .any :: .any :: .ptr 2 0 :: .any :: .ptr 4 0 :: .any :: iI (-1) :: a16 (a16 (a16 (a16 (a16 (a2 (.any :: iW v11.1 :: iW s158 :: a16 (a16 (a2 ([]))))))))))) : List AV)) (fun ⟨_, c159, c160, c161, l162⟩ => (.cells (iI c.Code :: iI c.Kind :: iI c.Width :: .p (.bool c.Sized) :: .p (.bool c.Items) :: []) :: .cells (iI c.Kind :: iW 0 :: iS [] :: .slice 4 5 0 l162.length :: []) :: .cells (iS v9.2.text :: iI v9.2.at' :: iI v9.2.err :: []) :: .cells (iS c159 :: iI c160 :: iI c161 :: []) :: .cells (.ptr 3 0 :: iI (IntKind.wrap .i64 (most - 1)) :: []) :: .cells (Ud Q0.cells l162) :: [] : List AObj)) (fun n1 ⟨s158, c159, c160, c161, l162⟩ => Yz R_amqvalue_Read N c most v9 v11 n1 s158 c159 c160 c161 l162) (0, v13.2.text, v13.2.at', v13.2.err, []) h (fun i => i) ⟨(rV <| rW <| rE rfl <| rW <| rE rfl <| rA <| rE rfl <| rA <| rE rfl <| rX <| rX <| rX <| rX <| rX <| rX <| rX <| rX <| rX <| rX <| rW <| rA <| rE rfl <| rE rfl <| rX <| rX <| rX <| rX <| rW <| rN), (hE rfl <| hC rfl (rE rfl <| rE rfl <| rE rfl <| rS <| rN) <| hE rfl <| hE rfl <| hE rfl <| hV lb <| hN), rfl, rfl, (roE rfl <| roE rfl <| roE rfl <| roE rfl <| roE rfl <| roE (Qp _ _ _) <| roN)⟩ fun n1 ⟨s158, c159, c160, c161, l162⟩ h => ?_
        simp only [Yz] at h
        apply iU h <;> intro h
        ·refine Jr k75 ?_
         refine ifT (by unfold Q5; decide) ?_
         refine Qd ?_
         refine dM h Zk rfl p0 fun v164 h => ?_
         refine cD h hR_amqvalue_Read p2 fun v166 h => ?_
         apply iU h <;> intro h
         ·refine cM h Qq rfl p1 fun v169 h => ?_
          apply iU h <;> intro h
          ·refine ifT (by unfold Q5; decide) ?_
           obtain rfl := Qm h; exact (Frz.tuple' (.cons q4n p2))
          ·apply iU h <;> intro h
           ·obtain rfl := Qm h; exact (Frz.tuple' (.cons q4n p2))
           ·obtain ⟨hk173, h⟩ := Q81 h
            refine Q3m (V2 (c := Q0.cells) (e := 4) (fun _ => rfl) (by simp) hk173) ?_
            refine Uh (c := Q0.cells) [v166.1] rfl ?_
            show Exists _
            exact ⟨(n1, (IntKind.wrap .u64 (s158 + 1)), v169.2.text, v169.2.at', v169.2.err, (l162 ++ [v166.1])), h, Nat.lt_succ_self _, (rho [0, 1, 2, 3, 4, 11]), ⟨(rV <| rW <| rE rfl <| rW <| rE rfl <| rA <| rE rfl <| rA <| rE rfl <| rX <| rX <| rX <| rX <| rX <| rX <| rX <| rX <| rX <| rX <| rW <| rA <| rE rfl <| rE rfl <| rX <| rX <| rX <| rX <| rW <| rN), (hE rfl <| hC rfl (rE rfl <| rE rfl <| rE rfl <| rL (by simp) rfl <| rN) <| hE rfl <| hE rfl <| hE rfl <| hO rfl <| hN), rfl, rfl, (roE rfl <| roE rfl <| roE rfl <| roE rfl <| roE rfl <| roE (Qp _ _ _) <| roN)⟩⟩
         ·apply iU h <;> intro h
          ·refine ifT (by unfold Q5; decide) ?_
           obtain rfl := Qm h; exact (Frz.tuple' (.cons q4n p2))
          ·apply iU h <;> intro h
           ·obtain rfl := Qm h; exact (Frz.tuple' (.cons q4n p2))
           ·obtain ⟨hk176, h⟩ := Q81 h
            refine Q3m (V2 (c := Q0.cells) (e := 4) (fun _ => rfl) (by simp) hk176) ?_
            refine Uh (c := Q0.cells) [v166.1] rfl ?_
            show Exists _
            exact ⟨(n1, (IntKind.wrap .u64 (s158 + 1)), v164.2.text, v164.2.at', v164.2.err, (l162 ++ [v166.1])), h, Nat.lt_succ_self _, (rho [0, 1, 2, 3, 4, 11]), ⟨(rV <| rW <| rE rfl <| rW <| rE rfl <| rA <| rE rfl <| rA <| rE rfl <| rX <| rX <| rX <| rX <| rX <| rX <| rX <| rX <| rX <| rX <| rW <| rA <| rE rfl <| rE rfl <| rX <| rX <| rX <| rX <| rW <| rN), (hE rfl <| hC rfl (rE rfl <| rE rfl <| rE rfl <| rL (by simp) rfl <| rN) <| hE rfl <| hE rfl <| hE rfl <| hO rfl <| hN), rfl, rfl, (roE rfl <| roE rfl <| roE rfl <| roE rfl <| roE rfl <| roE (Qp _ _ _) <| roN)⟩⟩
        ·refine cM h Zj rfl p0 fun v177 h => ?_
         apply iU h <;> intro h
         ·obtain rfl := Qm h; exact (Frz.tuple' (.cons q4n p2))
         ·refine cK h Vf (.cons (Frz.agg' (.cons (.p _) (.cons (.p _) (.cons (.p _) (.cons (Q0.frz_own (l := l162) rfl trivial (by simp)) .nil))))) .nil) fun v180 h => ?_
          apply iU h <;> intro h
          ·obtain rfl := Qm h; exact (Frz.tuple' (.cons q4n p2))
          ·refine Qd ?_
           refine dM h Zm rfl p0 fun v183 h => ?_
           obtain rfl := Qm h; exact (Frz.tuple' (.cons (Frz.agg' (.cons (.p _) (.cons (.p _) (.cons (.p _) (.cons (Q0.frz_own (l := l162) rfl trivial (by simp)) .nil))))) p2))
     ·apply iU h <;> intro h
      ·refine cM h Zj rfl p0 fun v186 h => ?_
       apply iU h <;> intro h
       ·obtain rfl := Qm h; exact (Frz.tuple' (.cons q4n p2))
       ·refine cM h Zx rfl p1 fun v189 h => ?_
        refine cP h Uw p1 fun v191 h => ?_
        apply iU h <;> intro h
        ·obtain rfl := Qm h; exact (Frz.tuple' (.cons q4n p2))
        ·apply iU h <;> intro h
         ·obtain rfl := Qm h; exact (Frz.tuple' (.cons q4n p2))
         ·refine lpC (τ := Int × (List UInt8) × Int × Int × (List Q0)) (fun ⟨s252, _, _, _, _⟩ => (a4 (a2 (.ptr 1 0 :: .any :: .any :: .ptr 2 0 :: .any :: .ptr 4 0 :: .any :: iI (IntKind.wrap .i64 v189.1) :: a16 (a16 (a16 (a16 (a16 (a2 (.any :: iW v11.1 :: iW s252 :: a16 (a16 (a2 ([]))))))))))) : List AV)) (fun ⟨_, c253, c254, c255, l256⟩ => (.cells (iI c.Code :: iI c.Kind :: iI c.Width :: .p (.bool c.Sized) :: .p (.bool c.Items) :: []) :: .cells (iI c.Kind :: iW (IntKind.wrap .u64 v191.1.Kind) :: iS [] :: .slice 4 6 0 l256.length :: []) :: .cells (iS v9.2.text :: iI v9.2.at' :: iI v9.2.err :: []) :: .cells (iS c253 :: iI c254 :: iI c255 :: []) :: .cells (.ptr 3 0 :: iI (IntKind.wrap .i64 (most - 1)) :: []) :: .cells (iI v191.1.Code :: iI v191.1.Kind :: iI v191.1.Width :: .p (.bool v191.1.Sized) :: .p (.bool v191.1.Items) :: []) :: .cells (Ud Q0.cells l256) :: [] : List AObj)) (fun n2 ⟨s252, c253, c254, c255, l256⟩ => Zi R_amqvalue_Read R_amqvalue_Data N c most v9 v11 v189 v191 n2 s252 c253 c254 c255 l256) (0, v189.2.text, v189.2.at', v189.2.err, []) h (fun i => i) ⟨(rV <| rW <| rE rfl <| rW <| rE rfl <| rA <| rE rfl <| rA <| rE rfl <| rX <| rX <| rX <| rX <| rX <| rX <| rX <| rX <| rX <| rX <| rW <| rA <| rE rfl <| rE rfl <| rX <| rX <| rX <| rX <| rW <| rN), (hE rfl <| hC rfl (rE rfl <| rE rfl <| rE rfl <| rS <| rN) <| hE rfl <| hE rfl <| hE rfl <| hE rfl <| hV lb <| hN), rfl, rfl, (roE rfl <| roE rfl <| roE rfl <| roE rfl <| roE rfl <| roE rfl <| roE (Qp _ _ _) <| roN)⟩ fun n2 ⟨s252, c253, c254, c255, l256⟩ h => ?_
          simp only [Zi] at h
          apply iU h <;> intro h
          ·refine Jr k75 ?_
           apply iU h <;> intro h
           ·refine Qd ?_
            refine dM h Zk rfl p0 fun v259 h => ?_
            refine cD h hR_amqvalue_Read p2 fun v261 h => ?_
            apply iU h <;> intro h
            ·refine cM h Qq rfl p1 fun v264 h => ?_
             apply iU h <;> intro h
             ·refine ifT (by unfold Q5; decide) ?_
              obtain rfl := Qm h; exact (Frz.tuple' (.cons q4n p2))
             ·apply iU h <;> intro h
              ·obtain rfl := Qm h; exact (Frz.tuple' (.cons q4n p2))
              ·obtain ⟨hk268, h⟩ := Q81 h
               refine Q3m (V2 (c := Q0.cells) (e := 4) (fun _ => rfl) (by simp) hk268) ?_
               refine Uh (c := Q0.cells) [v261.1] rfl ?_
               show Exists _
               exact ⟨(n2, (IntKind.wrap .u64 (s252 + 1)), v264.2.text, v264.2.at', v264.2.err, (l256 ++ [v261.1])), h, Nat.lt_succ_self _, (rho [0, 1, 2, 3, 4, 5, 12]), ⟨(rV <| rW <| rE rfl <| rW <| rE rfl <| rA <| rE rfl <| rA <| rE rfl <| rX <| rX <| rX <| rX <| rX <| rX <| rX <| rX <| rX <| rX <| rW <| rA <| rE rfl <| rE rfl <| rX <| rX <| rX <| rX <| rW <| rN), (hE rfl <| hC rfl (rE rfl <| rE rfl <| rE rfl <| rL (by simp) rfl <| rN) <| hE rfl <| hE rfl <| hE rfl <| hE rfl <| hO rfl <| hN), rfl, rfl, (roE rfl <| roE rfl <| roE rfl <| roE rfl <| roE rfl <| roE rfl <| roE (Qp _ _ _) <| roN)⟩⟩
            ·apply iU h <;> intro h
             ·refine ifT (by unfold Q5; decide) ?_
              obtain rfl := Qm h; exact (Frz.tuple' (.cons q4n p2))
             ·apply iU h <;> intro h
              ·obtain rfl := Qm h; exact (Frz.tuple' (.cons q4n p2))
              ·obtain ⟨hk271, h⟩ := Q81 h
               refine Q3m (V2 (c := Q0.cells) (e := 4) (fun _ => rfl) (by simp) hk271) ?_
               refine Uh (c := Q0.cells) [v261.1] rfl ?_
               show Exists _
               exact ⟨(n2, (IntKind.wrap .u64 (s252 + 1)), v259.2.text, v259.2.at', v259.2.err, (l256 ++ [v261.1])), h, Nat.lt_succ_self _, (rho [0, 1, 2, 3, 4, 5, 12]), ⟨(rV <| rW <| rE rfl <| rW <| rE rfl <| rA <| rE rfl <| rA <| rE rfl <| rX <| rX <| rX <| rX <| rX <| rX <| rX <| rX <| rX <| rX <| rW <| rA <| rE rfl <| rE rfl <| rX <| rX <| rX <| rX <| rW <| rN), (hE rfl <| hC rfl (rE rfl <| rE rfl <| rE rfl <| rL (by simp) rfl <| rN) <| hE rfl <| hE rfl <| hE rfl <| hE rfl <| hO rfl <| hN), rfl, rfl, (roE rfl <| roE rfl <| roE rfl <| roE rfl <| roE rfl <| roE rfl <| roE (Qp _ _ _) <| roN)⟩⟩
           ·refine Qd ?_
            refine dM h Zk rfl p0 fun v272 h => ?_
            refine cD h hR_amqvalue_Data p3 fun v274 h => ?_
            apply iU h <;> intro h
            ·refine cM h Qq rfl p1 fun v277 h => ?_
             apply iU h <;> intro h
             ·refine ifT (by unfold Q5; decide) ?_
              obtain rfl := Qm h; exact (Frz.tuple' (.cons q4n p2))
             ·apply iU h <;> intro h
              ·obtain rfl := Qm h; exact (Frz.tuple' (.cons q4n p2))
              ·obtain ⟨hk281, h⟩ := Q81 h
               refine Q3m (V2 (c := Q0.cells) (e := 4) (fun _ => rfl) (by simp) hk281) ?_
               refine Uh (c := Q0.cells) [v274.1] rfl ?_
               show Exists _
               exact ⟨(n2, (IntKind.wrap .u64 (s252 + 1)), v277.2.text, v277.2.at', v277.2.err, (l256 ++ [v274.1])), h, Nat.lt_succ_self _, (rho [0, 1, 2, 3, 4, 5, 12]), ⟨(rV <| rW <| rE rfl <| rW <| rE rfl <| rA <| rE rfl <| rA <| rE rfl <| rX <| rX <| rX <| rX <| rX <| rX <| rX <| rX <| rX <| rX <| rW <| rA <| rE rfl <| rE rfl <| rX <| rX <| rX <| rX <| rW <| rN), (hE rfl <| hC rfl (rE rfl <| rE rfl <| rE rfl <| rL (by simp) rfl <| rN) <| hE rfl <| hE rfl <| hE rfl <| hE rfl <| hO rfl <| hN), rfl, rfl, (roE rfl <| roE rfl <| roE rfl <| roE rfl <| roE rfl <| roE rfl <| roE (Qp _ _ _) <| roN)⟩⟩
            ·apply iU h <;> intro h
             ·refine ifT (by unfold Q5; decide) ?_
              obtain rfl := Qm h; exact (Frz.tuple' (.cons q4n p2))
             ·apply iU h <;> intro h
              ·obtain rfl := Qm h; exact (Frz.tuple' (.cons q4n p2))
              ·obtain ⟨hk284, h⟩ := Q81 h
               refine Q3m (V2 (c := Q0.cells) (e := 4) (fun _ => rfl) (by simp) hk284) ?_
               refine Uh (c := Q0.cells) [v274.1] rfl ?_
               show Exists _
               exact ⟨(n2, (IntKind.wrap .u64 (s252 + 1)), v272.2.text, v272.2.at', v272.2.err, (l256 ++ [v274.1])), h, Nat.lt_succ_self _, (rho [0, 1, 2, 3, 4, 5, 12]), ⟨(rV <| rW <| rE rfl <| rW <| rE rfl <| rA <| rE rfl <| rA <| rE rfl <| rX <| rX <| rX <| rX <| rX <| rX <| rX <| rX <| rX <| rX <| rW <| rA <| rE rfl <| rE rfl <| rX <| rX <| rX <| rX <| rW <| rN), (hE rfl <| hC rfl (rE rfl <| rE rfl <| rE rfl <| rL (by simp) rfl <| rN) <| hE rfl <| hE rfl <| hE rfl <| hE rfl <| hO rfl <| hN), rfl, rfl, (roE rfl <| roE rfl <| roE rfl <| roE rfl <| roE rfl <| roE rfl <| roE (Qp _ _ _) <| roN)⟩⟩
          ·refine cM h Zj rfl p0 fun v285 h => ?_
           apply iU h <;> intro h
           ·obtain rfl := Qm h; exact (Frz.tuple' (.cons q4n p2))
           ·refine cK h Vf (.cons (Frz.agg' (.cons (.p _) (.cons (.p _) (.cons (.p _) (.cons (Q0.frz_own (l := l256) rfl trivial (by simp)) .nil))))) .nil) fun v288 h => ?_
            apply iU h <;> intro h
            ·obtain rfl := Qm h; exact (Frz.tuple' (.cons q4n p2))
            ·refine Qd ?_
             refine dM h Zm rfl p0 fun v291 h => ?_
             obtain rfl := Qm h; exact (Frz.tuple' (.cons (Frz.agg' (.cons (.p _) (.cons (.p _) (.cons (.p _) (.cons (Q0.frz_own (l := l256) rfl trivial (by simp)) .nil))))) p2))
      ·refine lpC (τ := Int × (List UInt8) × Int × Int × (List Q0)) (fun ⟨s324, _, _, _, _⟩ => (a4 (a2 (.ptr 1 0 :: .any :: .any :: .ptr 2 0 :: .any :: .ptr 4 0 :: .any :: iI (-1) :: a16 (a16 (a16 (a16 (a16 (a2 (.any :: iW v11.1 :: iW s324 :: a16 (a16 (a2 ([]))))))))))) : List AV)) (fun ⟨_, c325, c326, c327, l328⟩ => (.cells (iI c.Code :: iI c.Kind :: iI c.Width :: .p (.bool c.Sized) :: .p (.bool c.Items) :: []) :: .cells (iI c.Kind :: iW 0 :: iS [] :: .slice 4 5 0 l328.length :: []) :: .cells (iS v9.2.text :: iI v9.2.at' :: iI v9.2.err :: []) :: .cells (iS c325 :: iI c326 :: iI c327 :: []) :: .cells (.ptr 3 0 :: iI (IntKind.wrap .i64 (most - 1)) :: []) :: .cells (Ud Q0.cells l328) :: [] : List AObj)) (fun n3 ⟨s324, c325, c326, c327, l328⟩ => Yx R_amqvalue_Read N c most v9 v11 n3 s324 c325 c326 c327 l328) (0, v13.2.text, v13.2.at', v13.2.err, []) h (fun i => i) ⟨(rV <| rW <| rE rfl <| rW <| rE rfl <| rA <| rE rfl <| rA <| rE rfl <| rX <| rX <| rX <| rX <| rX <| rX <| rX <| rX <| rX <| rX <| rW <| rA <| rE rfl <| rE rfl <| rX <| rX <| rX <| rX <| rW <| rN), (hE rfl <| hC rfl (rE rfl <| rE rfl <| rE rfl <| rS <| rN) <| hE rfl <| hE rfl <| hE rfl <| hV lb <| hN), rfl, rfl, (roE rfl <| roE rfl <| roE rfl <| roE rfl <| roE rfl <| roE (Qp _ _ _) <| roN)⟩ fun n3 ⟨s324, c325, c326, c327, l328⟩ h => ?_
       simp only [Yx] at h
       apply iU h <;> intro h
       ·refine Jr k75 ?_
        refine ifT (by unfold Q5; decide) ?_
        refine Qd ?_
        refine dM h Zk rfl p0 fun v330 h => ?_
        refine cD h hR_amqvalue_Read p2 fun v332 h => ?_
        apply iU h <;> intro h
        ·refine cM h Qq rfl p1 fun v335 h => ?_
         apply iU h <;> intro h
         ·refine ifT (by unfold Q5; decide) ?_
          obtain rfl := Qm h; exact (Frz.tuple' (.cons q4n p2))
         ·apply iU h <;> intro h
          ·obtain rfl := Qm h; exact (Frz.tuple' (.cons q4n p2))
          ·obtain ⟨hk339, h⟩ := Q81 h
           refine Q3m (V2 (c := Q0.cells) (e := 4) (fun _ => rfl) (by simp) hk339) ?_
           refine Uh (c := Q0.cells) [v332.1] rfl ?_
           show Exists _
           exact ⟨(n3, (IntKind.wrap .u64 (s324 + 1)), v335.2.text, v335.2.at', v335.2.err, (l328 ++ [v332.1])), h, Nat.lt_succ_self _, (rho [0, 1, 2, 3, 4, 11]), ⟨(rV <| rW <| rE rfl <| rW <| rE rfl <| rA <| rE rfl <| rA <| rE rfl <| rX <| rX <| rX <| rX <| rX <| rX <| rX <| rX <| rX <| rX <| rW <| rA <| rE rfl <| rE rfl <| rX <| rX <| rX <| rX <| rW <| rN), (hE rfl <| hC rfl (rE rfl <| rE rfl <| rE rfl <| rL (by simp) rfl <| rN) <| hE rfl <| hE rfl <| hE rfl <| hO rfl <| hN), rfl, rfl, (roE rfl <| roE rfl <| roE rfl <| roE rfl <| roE rfl <| roE (Qp _ _ _) <| roN)⟩⟩
        ·apply iU h <;> intro h
         ·refine ifT (by unfold Q5; decide) ?_
          obtain rfl := Qm h; exact (Frz.tuple' (.cons q4n p2))
         ·apply iU h <;> intro h
          ·obtain rfl := Qm h; exact (Frz.tuple' (.cons q4n p2))
          ·obtain ⟨hk342, h⟩ := Q81 h
           refine Q3m (V2 (c := Q0.cells) (e := 4) (fun _ => rfl) (by simp) hk342) ?_
           refine Uh (c := Q0.cells) [v332.1] rfl ?_
           show Exists _
           exact ⟨(n3, (IntKind.wrap .u64 (s324 + 1)), v330.2.text, v330.2.at', v330.2.err, (l328 ++ [v332.1])), h, Nat.lt_succ_self _, (rho [0, 1, 2, 3, 4, 11]), ⟨(rV <| rW <| rE rfl <| rW <| rE rfl <| rA <| rE rfl <| rA <| rE rfl <| rX <| rX <| rX <| rX <| rX <| rX <| rX <| rX <| rX <| rX <| rW <| rA <| rE rfl <| rE rfl <| rX <| rX <| rX <| rX <| rW <| rN), (hE rfl <| hC rfl (rE rfl <| rE rfl <| rE rfl <| rL (by simp) rfl <| rN) <| hE rfl <| hE rfl <| hE rfl <| hO rfl <| hN), rfl, rfl, (roE rfl <| roE rfl <| roE rfl <| roE rfl <| roE rfl <| roE (Qp _ _ _) <| roN)⟩⟩
       ·refine cM h Zj rfl p0 fun v343 h => ?_
        apply iU h <;> intro h
        ·obtain rfl := Qm h; exact (Frz.tuple' (.cons q4n p2))
        ·refine cK h Vf (.cons (Frz.agg' (.cons (.p _) (.cons (.p _) (.cons (.p _) (.cons (Q0.frz_own (l := l328) rfl trivial (by simp)) .nil))))) .nil) fun v346 h => ?_
         apply iU h <;> intro h
         ·obtain rfl := Qm h; exact (Frz.tuple' (.cons q4n p2))
         ·refine Qd ?_
          refine dM h Zm rfl p0 fun v349 h => ?_
          obtain rfl := Qm h; exact (Frz.tuple' (.cons (Frz.agg' (.cons (.p _) (.cons (.p _) (.cons (.p _) (.cons (Q0.frz_own (l := l328) rfl trivial (by simp)) .nil))))) p2))
def Qa : Nat → ((List UInt8) → Int → Option (Q0 × Int × Int)) × (Int → (List UInt8) → Int → Option (Q0 × Int × Int)) × ((List UInt8) → Int → Option (Q0 × Int × Int)) × (Qg → (List UInt8) → Int → Option (Q0 × Int × Int))
 | 0 => (fun _ _ => none, fun _ _ _ => none, fun _ _ => none, fun _ _ _ => none)
 | N + 1 => (Vp ((Qa N).1) ((Qa N).2.1) ((Qa N).2.2.1) ((Qa N).2.2.2) N, Wl ((Qa N).1) ((Qa N).2.1) ((Qa N).2.2.1) ((Qa N).2.2.2) N, W3 ((Qa N).1) ((Qa N).2.1) ((Qa N).2.2.1) ((Qa N).2.2.2) N, Wr ((Qa N).1) ((Qa N).2.1) ((Qa N).2.2.1) ((Qa N).2.2.2) N)
def Zn (N : Nat) : (List UInt8) → Int → Option (Q0 × Int × Int) := (Qa N).1
def Xq (N : Nat) : Int → (List UInt8) → Int → Option (Q0 × Int × Int) := (Qa N).2.1
def W7 (N : Nat) : (List UInt8) → Int → Option (Q0 × Int × Int) := (Qa N).2.2.1
def Vb (N : Nat) : Qg → (List UInt8) → Int → Option (Q0 × Int × Int) := (Qa N).2.2.2
theorem Q47 : ∀ N, (∀ {s_0 : List UInt8} {most : Int} {r : Q0 × Int × Int}, (Qa N).1 s_0 most = some r → Y9 Tryd.prog G1 11 [.str s_0, .int .i64 most] (.tuple [.agg (Q0.cells r.1), .int .i64 r.2.1, .int .i64 r.2.2])) ∧ (∀ {code : Int} {s_1 : List UInt8} {most : Int} {r : Q0 × Int × Int}, (Qa N).2.1 code s_1 most = some r → Y9 Tryd.prog G1 35 [.int .i64 code, .str s_1, .int .i64 most] (.tuple [.agg (Q0.cells r.1), .int .i64 r.2.1, .int .i64 r.2.2])) ∧ (∀ {s_0 : List UInt8} {most : Int} {r : Q0 × Int × Int}, (Qa N).2.2.1 s_0 most = some r → Y9 Tryd.prog G1 48 [.str s_0, .int .i64 most] (.tuple [.agg (Q0.cells r.1), .int .i64 r.2.1, .int .i64 r.2.2])) ∧ (∀ {c : Qg} {s_1 : List UInt8} {most : Int} {r : Q0 × Int × Int}, (Qa N).2.2.2 c s_1 most = some r → Y9 Tryd.prog G1 49 [.agg (Qg.cells c), .str s_1, .int .i64 most] (.tuple [.agg (Q0.cells r.1), .int .i64 r.2.1, .int .i64 r.2.2])) := by
 intro N
 induction N with
 | zero => exact ⟨(fun h => by simp [Qa] at h), (fun h => by simp [Qa] at h), (fun h => by simp [Qa] at h), (fun h => by simp [Qa] at h)⟩
 | succ N ih => exact ⟨(fun h => Q48 (N := N) (fun h => ih.1 h) (fun h => ih.2.1 h) (fun h => ih.2.2.1 h) (fun h => ih.2.2.2 h) h), (fun h => Q4d (N := N) (fun h => ih.1 h) (fun h => ih.2.1 h) (fun h => ih.2.2.1 h) (fun h => ih.2.2.2 h) h), (fun h => Q1a (N := N) (fun h => ih.1 h) (fun h => ih.2.1 h) (fun h => ih.2.2.1 h) (fun h => ih.2.2.2 h) h), (fun h => Q35 (N := N) (fun h => ih.1 h) (fun h => ih.2.1 h) (fun h => ih.2.2.1 h) (fun h => ih.2.2.2 h) h)⟩
theorem Uu {N : Nat} {s_0 : List UInt8} {most : Int} {r : Q0 × Int × Int} (h : Zn N s_0 most = some r) : Y9 Tryd.prog G1 11 [.str s_0, .int .i64 most] (.tuple [.agg (Q0.cells r.1), .int .i64 r.2.1, .int .i64 r.2.2]) := (Q47 N).1 h
def Xt (N : Nat) : Option (Bool) :=
 (Zn N [192, 3, 2, 65, 64] 2).bind fun v1 =>
 (Zn N [224, 4, 2, 80, 1, 2] 2).bind fun v3 =>
 (V0 N 3 1).bind fun v5 =>
 cond (Q5 .eql v1.2.2 0)
 (cond (Q5 .eql v3.2.2 0)
 (cond (Q5 .eql v1.2.1 5)
 (cond (Q5 .eql v3.2.1 6)
 ((V0 N 2 1).bind fun v11 =>
 (V0 N 1 0).bind fun v13 =>
 (X7 N v1.1 (⟨22, 0, [], [v11, v13]⟩ : Q0)).bind fun v15 =>
 cond v15
 ((V0 N 3 2).bind fun v18 =>
 (X7 N v3.1 (⟨24, 3, [], [v5, v18]⟩ : Q0)).bind fun v20 =>
 some v20)
 (some false))
 (some false))
 (some false))
 (some false))
 (some false)
theorem Q0k {N} {r} (h : Xt N = some r) : Y9 Tryd.prog G1 7 [] (.bool r) := by
 refine Q6 k7 ?_
 unfold Xt at h
 refine cP h Uu p2 fun v1 h => ?_
 refine cP h Uu p2 fun v3 h => ?_
 refine cP h Vh p2 fun v5 h => ?_
 refine Qd ?_
 apply iU h <;> intro h
 ·apply iU h <;> intro h
  ·apply iU h <;> intro h
   ·apply iU h <;> intro h
    ·refine cD h Vh p2 fun v11 h => ?_
     refine cD h Vh p2 fun v13 h => ?_
     refine Qda (r := .agg [iI 22, iW 0, iS [], .slice 4 3 0 2]) rfl rfl (Jr k28 rfl) ?_
     refine dL h U0 [3] (.cons q4 (.cons (Frz.agg' (.cons (.p _) (.cons (.p _) (.cons (.p _) (.cons (Q0.frz_own (l := [v11, v13]) rfl (by simp) (by simp)) .nil))))) .nil)) fun v15 h => ?_
     apply iU h <;> intro h
     ·refine cD h Vh p2 fun v18 h => ?_
      refine dL h U0 [4] (.cons q4 (.cons (Frz.agg' (.cons (.p _) (.cons (.p _) (.cons (.p _) (.cons (Q0.frz_own (l := [v5, v18]) rfl (by simp) (by simp)) .nil))))) .nil)) fun v20 h => ?_
      cases h; exact (.p _)
     ·cases h; exact (.p _)
    ·cases h; exact (.p _)
   ·cases h; exact (.p _)
  ·cases h; exact (.p _)
 ·cases h; exact (.p _)
def Yt (R_polyglotkit_nodes : Q0 → Int → Int → Option (Int)) (N : Nat) (v : Q0) (deep : Int) (most : Int) : Nat → Int → Int → Option (Int)
 | 0, _, _ => none
 | n + 1, n18, i19 =>
  cond (Q5 .lss i19 ((Q0.rows v.Items).length : Int))
  (cond (Q5 .leq n18 most)
  ((idx v.Items i19).bind fun y22 =>
  (R_polyglotkit_nodes y22 (IntKind.wrap .i64 (deep - 1)) (IntKind.wrap .i64 (most - n18))).bind fun v24 =>
  Yt R_polyglotkit_nodes N v deep most n (IntKind.wrap .i64 (n18 + v24)) (IntKind.wrap .i64 (i19 + 1)))
  (some n18))
  (some n18)
def V7 (R_polyglotkit_nodes : Q0 → Int → Int → Option (Int)) (N : Nat) (v : Q0) (deep : Int) (most : Int) : Option (Int) :=
 cond (Q5 .lss deep 0)
 (some (IntKind.wrap .i64 (most + 1)))
 (cond (Q5 .gtr ((Q0.rows v.Items).length : Int) most)
 (some (IntKind.wrap .i64 (most + 1)))
 (cond (Q5 .gtr (v.Text.length : Int) 400)
 (some (IntKind.wrap .i64 (most + 1)))
 (Yt R_polyglotkit_nodes N v deep most N 1 0)))
theorem Q1h {R_polyglotkit_nodes : Q0 → Int → Int → Option (Int)} (hR_polyglotkit_nodes : ∀ {v} {deep} {most} {r}, R_polyglotkit_nodes v deep most = some r → Y9 Tryd.prog G1 29 [.agg (Q0.cells v), .int .i64 deep, .int .i64 most] (.int .i64 r)) {N} {v} {deep} {most} {r} (h : V7 R_polyglotkit_nodes N v deep most = some r) : Y9 Tryd.prog G1 29 [.agg (Q0.cells v), .int .i64 deep, .int .i64 most] (.int .i64 r) := by
 refine Q6 k29 ?_
 unfold V7 at h
 apply iU h <;> intro h
 ·cases h; exact (.p _)
 ·apply iU h <;> intro h
  ·cases h; exact (.p _)
  ·apply iU h <;> intro h
   ·cases h; exact (.p _)
   ·refine lpC (τ := Int × Int) (fun ⟨n18, i19⟩ => (.any :: iI deep :: iI most :: .ptr 0 0 :: a2 (.any :: iI n18 :: iI i19 :: a16 (a16 (a8 (a2 (.any :: []))))) : List AV)) (fun ⟨_, _⟩ => (.cells (iI v.Kind :: iW v.N' :: iS v.Text :: .p (.slice 4 (Q0.rows v.Items)) :: []) :: [] : List AObj)) (fun n0 ⟨n18, i19⟩ => Yt R_polyglotkit_nodes N v deep most n0 n18 i19) (1, 0) h (fun i => i) ⟨(rA <| rE rfl <| rE rfl <| rE rfl <| rW <| rA <| rE rfl <| rE rfl <| rX <| rX <| rX <| rX <| rX <| rW <| rA <| rN), (hE rfl <| hN), rfl, rfl, (roE rfl <| roN)⟩ fun n0 ⟨n18, i19⟩ h => ?_
    simp only [Yt] at h
    apply iU h <;> intro h
    ·apply iU h <;> intro h
     ·refine Q0.xR h fun y22 h => ?_
      refine cP h hR_polyglotkit_nodes (.cons q4 p2) fun v24 h => ?_
      show Exists _
      exact ⟨(n0, (IntKind.wrap .i64 (n18 + v24)), (IntKind.wrap .i64 (i19 + 1))), h, Nat.lt_succ_self _, (fun i => i), ⟨(rA <| rE rfl <| rE rfl <| rE rfl <| rW <| rA <| rE rfl <| rE rfl <| rX <| rX <| rX <| rX <| rX <| rW <| rA <| rN), (hE rfl <| hN), rfl, rfl, (roE rfl <| roN)⟩⟩
     ·cases h; exact (.p _)
    ·cases h; exact (.p _)
def Yy : Nat → Q0 → Int → Int → Option (Int)
 | 0 => fun _ _ _ => none
 | N + 1 => V7 (Yy N) N
theorem Q1g {N} {v} {deep} {most} {r} (h : Yy N v deep most = some r) : Y9 Tryd.prog G1 29 [.agg (Q0.cells v), .int .i64 deep, .int .i64 most] (.int .i64 r) := by
 induction N generalizing v deep most r with
 | zero => simp [Yy] at h
 | succ N ih => exact Q1h (fun h => ih h) h
def X3 (N : Nat) (v : Q0) : Option (Bool) :=
 (Yy N v 6 40).bind fun v1 =>
 some (Q5 .leq v1 40)
theorem G9 {N} {v} {r} (h : X3 N v = some r) : Y9 Tryd.prog G1 8 [.agg (Q0.cells v)] (.bool r) := by
 refine Q6 k8 ?_
 unfold X3 at h
 refine cP h Q1g (.cons q4 p2) fun v1 h => ?_
 cases h; exact (.p _)
def Ye (R_polyglotref17_Same : Q0 → Q0 → Option (Bool)) (N : Nat) (a : Q0) (b : Q0) : Nat → Int → Option (Bool)
 | 0, _ => none
 | n + 1, i22 =>
  cond (Q5 .lss i22 ((Q0.rows a.Items).length : Int))
  ((idx a.Items i22).bind fun y24 =>
  (idx b.Items i22).bind fun y26 =>
  (R_polyglotref17_Same y24 y26).bind fun v28 =>
  cond (!v28)
  (some false)
  (Ye R_polyglotref17_Same N a b n (IntKind.wrap .i64 (i22 + 1))))
  (some true)
def Wz (R_polyglotref17_Same : Q0 → Q0 → Option (Bool)) (N : Nat) (a : Q0) (b : Q0) : Option (Bool) :=
 cond (Q5 .neq a.Kind b.Kind)
 (some false)
 (cond (Q5 .neq a.N' b.N')
 (some false)
 (cond (Q66 .neq a.Text b.Text)
 (some false)
 (cond (Q5 .neq ((Q0.rows a.Items).length : Int) ((Q0.rows b.Items).length : Int))
 (some false)
 (Ye R_polyglotref17_Same N a b N 0))))
theorem Q0s {R_polyglotref17_Same : Q0 → Q0 → Option (Bool)} (hR_polyglotref17_Same : ∀ {a} {b} {r}, R_polyglotref17_Same a b = some r → Y9 Tryd.prog G1 30 [.agg (Q0.cells a), .agg (Q0.cells b)] (.bool r)) {N} {a} {b} {r} (h : Wz R_polyglotref17_Same N a b = some r) : Y9 Tryd.prog G1 30 [.agg (Q0.cells a), .agg (Q0.cells b)] (.bool r) := by
 refine Q6 k30 ?_
 unfold Wz at h
 apply iU h <;> intro h
 ·cases h; exact (.p _)
 ·apply iU h <;> intro h
  ·cases h; exact (.p _)
  ·apply iU h <;> intro h
   ·cases h; exact (.p _)
   ·apply iU h <;> intro h
    ·cases h; exact (.p _)
    ·refine lpC (τ := Int) (fun i22 => (.any :: .any :: .ptr 0 0 :: .ptr 1 0 :: .any :: iI i22 :: a16 (a16 (a8 (a4 (a2 (.any :: []))))) : List AV)) (fun _ => (.cells (iI a.Kind :: iW a.N' :: iS a.Text :: .p (.slice 4 (Q0.rows a.Items)) :: []) :: .cells (iI b.Kind :: iW b.N' :: iS b.Text :: .p (.slice 4 (Q0.rows b.Items)) :: []) :: [] : List AObj)) (fun n0 i22 => Ye R_polyglotref17_Same N a b n0 i22) (0) h (fun i => i) ⟨(rW <| rE rfl <| rE rfl <| rA <| rE rfl <| rX <| rX <| rX <| rX <| rX <| rV <| rW <| rA <| rN), (hE rfl <| hE rfl <| hN), rfl, rfl, (roE rfl <| roE rfl <| roN)⟩ fun n0 i22 h => ?_
     simp only [Ye] at h
     apply iU h <;> intro h
     ·refine Qd ?_
      refine Q0.xR h fun y24 h => ?_
      refine Q0.xR h fun y26 h => ?_
      refine cD h hR_polyglotref17_Same (.cons q4 (.cons q4 .nil)) fun v28 h => ?_
      apply iU h <;> intro h
      ·cases h; exact (.p _)
      ·show Exists _
       exact ⟨(n0, (IntKind.wrap .i64 (i22 + 1))), h, Nat.lt_succ_self _, (fun i => i), ⟨(rW <| rE rfl <| rE rfl <| rA <| rE rfl <| rX <| rX <| rX <| rX <| rX <| rV <| rW <| rA <| rN), (hE rfl <| hE rfl <| hN), rfl, rfl, (roE rfl <| roE rfl <| roN)⟩⟩
     ·cases h; exact (.p _)
def Yj : Nat → Q0 → Q0 → Option (Bool)
 | 0 => fun _ _ => none
 | N + 1 => Wz (Yj N) N
theorem Q10 {N} {a} {b} {r} (h : Yj N a b = some r) : Y9 Tryd.prog G1 30 [.agg (Q0.cells a), .agg (Q0.cells b)] (.bool r) := by
 induction N generalizing a b r with
 | zero => simp [Yj] at h
 | succ N ih => exact Q0s (fun h => ih h) h
def Zc (R_polyglotref17_Copy : Q0 → Option (Q0)) (N : Nat) (v : Q0) : Nat → Int → (List Q0) → Option (Q0)
 | 0, _, _ => none
 | n + 1, i14, l15 =>
  cond (Q5 .lss i14 ((Q0.rows v.Items).length : Int))
  ((idx v.Items i14).bind fun y17 =>
  (R_polyglotref17_Copy y17).bind fun v19 =>
  cond (Nat.ble ((l15.length + 1 + 4096) * 56) 17592186044416) (Zc R_polyglotref17_Copy N v n (IntKind.wrap .i64 (i14 + 1)) (l15 ++ [v19])) none)
  (some (⟨v.Kind, v.N', v.Text, l15⟩ : Q0))
def W9 (R_polyglotref17_Copy : Q0 → Option (Q0)) (N : Nat) (v : Q0) : Option (Q0) :=
 Zc R_polyglotref17_Copy N v N 0 []
theorem Q15 {R_polyglotref17_Copy : Q0 → Option (Q0)} (hR_polyglotref17_Copy : ∀ {v} {r}, R_polyglotref17_Copy v = some r → Y9 Tryd.prog G1 41 [.agg (Q0.cells v)] (.agg (Q0.cells r))) {N} {v} {r} (h : W9 R_polyglotref17_Copy N v = some r) : Y9 Tryd.prog G1 41 [.agg (Q0.cells v)] (.agg (Q0.cells r)) := by
 refine Q6 k41 ?_
 unfold W9 at h
 refine lpC (τ := Int × (List Q0)) (fun ⟨i14, _⟩ => (.any :: .ptr 0 0 :: .ptr 1 0 :: .ptr 2 0 :: iI i14 :: a16 (a8 (a2 ([]))) : List AV)) (fun ⟨_, l15⟩ => (.cells (iI v.Kind :: iW v.N' :: iS v.Text :: .p (.slice 4 (Q0.rows v.Items)) :: []) :: .cells (iI 0 :: iW 0 :: iS [] :: .p .nilSlice :: []) :: .cells (iI v.Kind :: iW v.N' :: iS v.Text :: .slice 4 3 0 l15.length :: []) :: .cells (Ud Q0.cells l15) :: [] : List AObj)) (fun n0 ⟨i14, l15⟩ => Zc R_polyglotref17_Copy N v n0 i14 l15) (0, []) h (fun i => i) ⟨(rA <| rE rfl <| rE rfl <| rE rfl <| rE rfl <| rX <| rX <| rX <| rW <| rN), (hE rfl <| hE rfl <| hC rfl (rE rfl <| rE rfl <| rE rfl <| rS <| rN) <| hV lb <| hN), rfl, rfl, (roE rfl <| roE rfl <| roE rfl <| roE (Qp _ _ _) <| roN)⟩ fun n0 ⟨i14, l15⟩ h => ?_
 simp only [Zc] at h
 apply iU h <;> intro h
 ·refine Qd ?_
  refine Q0.xR h fun y17 h => ?_
  refine cD h hR_polyglotref17_Copy (.cons q4 .nil) fun v19 h => ?_
  obtain ⟨hk21, h⟩ := Q81 h
  refine Q3m (V2 (c := Q0.cells) (e := 4) (fun _ => rfl) (by simp) hk21) ?_
  refine Uh (c := Q0.cells) [v19] rfl ?_
  show Exists _
  exact ⟨(n0, (IntKind.wrap .i64 (i14 + 1)), (l15 ++ [v19])), h, Nat.lt_succ_self _, (rho [0, 1, 2, 5]), ⟨(rA <| rE rfl <| rE rfl <| rE rfl <| rE rfl <| rX <| rX <| rX <| rW <| rN), (hE rfl <| hE rfl <| hC rfl (rE rfl <| rE rfl <| rE rfl <| rL (by simp) rfl <| rN) <| hO rfl <| hN), rfl, rfl, (roE rfl <| roE rfl <| roE rfl <| roE (Qp _ _ _) <| roN)⟩⟩
 ·obtain rfl := Qm h; exact (Frz.agg' (.cons (.p _) (.cons (.p _) (.cons (.p _) (.cons (Q0.frz_own (l := l15) rfl trivial (by simp)) .nil)))))
def Zw : Nat → Q0 → Option (Q0)
 | 0 => fun _ => none
 | N + 1 => W9 (Zw N) N
theorem Q0z {N} {v} {r} (h : Zw N v = some r) : Y9 Tryd.prog G1 41 [.agg (Q0.cells v)] (.agg (Q0.cells r)) := by
 induction N generalizing v r with
 | zero => simp [Zw] at h
 | succ N ih => exact Q15 (fun h => ih h) h
theorem Q0h {R_polyglotref17_Copy : Q0 → Option (Q0)} (hR_polyglotref17_Copy : ∀ {v} {r}, R_polyglotref17_Copy v = some r → Y9 Tryd.prog G1 41 [.agg (Q0.cells v)] (.agg (Q0.cells r))) {N} {v} {r} (h : W9 R_polyglotref17_Copy N v = some r) : GC Tryd.prog G1 41 (.p (.agg (Q0.cells v)) :: []) [] (.agg [.p (.int .i64 r.Kind), .p (.int .u64 r.N'), .p (.str r.Text), .slice 4 0 0 r.Items.length]) (.cells (Ud Q0.cells r.Items) :: []) := by
 refine Qes k41 (Nat.le_of_ble_eq_true rfl) ?_
 unfold W9 at h
 refine lpC (τ := Int × (List Q0)) (fun ⟨i14, _⟩ => (.any :: .ptr 0 0 :: .ptr 1 0 :: .ptr 2 0 :: iI i14 :: a16 (a8 (a2 ([]))) : List AV)) (fun ⟨_, l15⟩ => (.cells (iI v.Kind :: iW v.N' :: iS v.Text :: .p (.slice 4 (Q0.rows v.Items)) :: []) :: .cells (iI 0 :: iW 0 :: iS [] :: .p .nilSlice :: []) :: .cells (iI v.Kind :: iW v.N' :: iS v.Text :: .slice 4 3 0 l15.length :: []) :: .cells (Ud Q0.cells l15) :: [] : List AObj)) (fun n0 ⟨i14, l15⟩ => Zc R_polyglotref17_Copy N v n0 i14 l15) (0, []) h (fun i => i) ⟨(rA <| rE rfl <| rE rfl <| rE rfl <| rE rfl <| rX <| rX <| rX <| rW <| rN), (hE rfl <| hE rfl <| hC rfl (rE rfl <| rE rfl <| rE rfl <| rS <| rN) <| hV lb <| hN), rfl, rfl, (roE rfl <| roE rfl <| roE rfl <| roE (Qp _ _ _) <| roN)⟩ fun n0 ⟨i14, l15⟩ h => ?_
 simp only [Zc] at h
 apply iU h <;> intro h
 ·refine Qd ?_
  refine Q0.xR h fun y17 h => ?_
  refine cD h hR_polyglotref17_Copy (.cons q4 .nil) fun v19 h => ?_
  obtain ⟨hk21, h⟩ := Q81 h
  refine Q3m (V2 (c := Q0.cells) (e := 4) (fun _ => rfl) (by simp) hk21) ?_
  refine Uh (c := Q0.cells) [v19] rfl ?_
  show Exists _
  exact ⟨(n0, (IntKind.wrap .i64 (i14 + 1)), (l15 ++ [v19])), h, Nat.lt_succ_self _, (rho [0, 1, 2, 5]), ⟨(rA <| rE rfl <| rE rfl <| rE rfl <| rE rfl <| rX <| rX <| rX <| rW <| rN), (hE rfl <| hE rfl <| hC rfl (rE rfl <| rE rfl <| rE rfl <| rL (by simp) rfl <| rN) <| hO rfl <| hN), rfl, rfl, (roE rfl <| roE rfl <| roE rfl <| roE (Qp _ _ _) <| roN)⟩⟩
 ·obtain rfl := Qm h
  show Exists _
  exact ⟨(rho [3]), ⟨(rG (rE rfl <| rE rfl <| rE rfl <| rE rfl <| rN) <| rN), (hO rfl <| hN), rfl, rfl, (roE (Qp _ _ _) <| roN)⟩⟩
theorem Q03 {N} {v} {r} (h : Zw N v = some r) : GC Tryd.prog G1 41 (.p (.agg (Q0.cells v)) :: []) [] (.agg [.p (.int .i64 r.Kind), .p (.int .u64 r.N'), .p (.str r.Text), .slice 4 0 0 r.Items.length]) (.cells (Ud Q0.cells r.Items) :: []) := by
 cases N with
 | zero => simp [Zw] at h
 | succ N => exact Q0h (fun h => Q0z h) h
def Yd (R_polyglotref18_Norm : Q0 → Option (Q0)) (N : Nat) (v : Q0) (v1 : Q0) (c22 : Int) : Nat → Int → (List Q0) → Option (Q0)
 | 0, _, _ => none
 | n + 1, i45, l46 =>
  cond (Q5 .lss i45 ((Q0.rows v.Items).length : Int))
  ((idx v.Items i45).bind fun y48 =>
  (R_polyglotref18_Norm y48).bind fun v50 =>
  (idx (l46 : List Q0) i45).bind fun y52 =>
  Yd R_polyglotref18_Norm N v v1 c22 n (IntKind.wrap .i64 (i45 + 1)) ((l46 : List Q0).set (Int.toNat i45) v50))
  (some (⟨v1.Kind, c22, v1.Text, l46⟩ : Q0))
def Ze (R_polyglotref18_Norm : Q0 → Option (Q0)) (N : Nat) (v : Q0) (v1 : Q0) (c22 : Int) : Option (Q0) :=
 Yd R_polyglotref18_Norm N v v1 c22 N 0 v1.Items
def Yh (_N : Nat) (k2 : Int → Option (Q0)) (c9 : Int) (s25 : Bool) : Option (Q0) :=
 cond s25
 (k2 9221120237041090560)
 (k2 c9)
def Zq (R_polyglotref18_Norm : Q0 → Option (Q0)) (N : Nat) (v : Q0) (v1 : Q0) (c9 : Int) : Option (Q0) :=
 cond (Q5 .eql v.Kind 12)
 (cond (Q5 .eql (Gf .u64 v.N' 9218868437227405312) 9218868437227405312)
 (Yh N (Ze R_polyglotref18_Norm N v v1) c9 (Q5 .neq (Gf .u64 v.N' 4503599627370495) 0))
 (Yh N (Ze R_polyglotref18_Norm N v v1) c9 false))
 (Yh N (Ze R_polyglotref18_Norm N v v1) c9 false)
def Yb (_N : Nat) (k0 : Int → Option (Q0)) (v1 : Q0) (s12 : Bool) : Option (Q0) :=
 cond s12
 (k0 2143289344)
 (k0 v1.N')
def W6 (R_polyglotref18_Norm : Q0 → Option (Q0)) (N : Nat) (v : Q0) : Option (Q0) :=
 (Zw N v).bind fun v1 =>
 cond (Q5 .eql v.Kind 11)
 (cond (Q5 .eql (Gf .u64 v.N' 2139095040) 2139095040)
 (Yb N (Zq R_polyglotref18_Norm N v v1) v1 (Q5 .neq (Gf .u64 v.N' 8388607) 0))
 (Yb N (Zq R_polyglotref18_Norm N v v1) v1 false))
 (Yb N (Zq R_polyglotref18_Norm N v v1) v1 false)
theorem Q0w {R_polyglotref18_Norm : Q0 → Option (Q0)} (hR_polyglotref18_Norm : ∀ {v} {r}, R_polyglotref18_Norm v = some r → Y9 Tryd.prog G1 31 [.agg (Q0.cells v)] (.agg (Q0.cells r))) {N} {v} {r} (h : W6 R_polyglotref18_Norm N v = some r) : Y9 Tryd.prog G1 31 [.agg (Q0.cells v)] (.agg (Q0.cells r)) := by
 refine Q6 k31 ?_
 unfold W6 at h
 refine cG h Q03 fun v1 h => ?_
 refine ⟨fun i => i, (.cells (iI v.Kind :: iW v.N' :: iS v.Text :: .p (.slice 4 (Q0.rows v.Items)) :: []) :: .cells (iI 0 :: iW 0 :: iS [] :: .p .nilSlice :: []) :: .cells (Ud Q0.cells v1.Items) :: []), .agg [iI v1.Kind, iW v1.N', iS v1.Text, .slice 4 2 0 v1.Items.length], ⟨(rF q4 <| rN), hN, rfl, rfl, roN, rfl, (fK rfl rfl <| fK rfl rfl <| fO 0 rfl rfl rfl <| fN), rfl⟩, ?_⟩
 refine Vn (σ := Int) (fun _ => (.any :: .ptr 0 0 :: .ptr 1 0 :: .ptr 3 0 :: a16 (a16 (a16 (a4 (.any :: [])))) : List AV)) (fun c9 => (.cells (iI v.Kind :: iW v.N' :: iS v.Text :: .p (.slice 4 (Q0.rows v.Items)) :: []) :: .cells (iI 0 :: iW 0 :: iS [] :: .p .nilSlice :: []) :: .cells (Ud Q0.cells v1.Items) :: .cells (iI v1.Kind :: iW c9 :: iS v1.Text :: .slice 4 2 0 v1.Items.length :: []) :: [] : List AObj)) (fun c9 => Zq R_polyglotref18_Norm N v v1 c9 = some r) (fun _ _ => lb) ?_ ?_
 ·refine Vn (σ := Bool) (fun s12 => (.any :: .ptr 0 0 :: .ptr 1 0 :: .ptr 3 0 :: a16 (.any :: .p (.bool s12) :: a16 (a16 (a2 (.any :: [])))) : List AV)) (fun _ => (.cells (iI v.Kind :: iW v.N' :: iS v.Text :: .p (.slice 4 (Q0.rows v.Items)) :: []) :: .cells (iI 0 :: iW 0 :: iS [] :: .p .nilSlice :: []) :: .cells (Ud Q0.cells v1.Items) :: .cells (iI v1.Kind :: iW v1.N' :: iS v1.Text :: .slice 4 2 0 v1.Items.length :: []) :: [] : List AObj)) (fun s12 => Yb N (Zq R_polyglotref18_Norm N v v1) v1 s12 = some r) (fun _ _ => lb) ?_ ?_
  ·apply iU h <;> intro h
   ·apply iU h <;> intro h
    ·show Exists _
     exact ⟨((Q5 .neq (Gf .u64 v.N' 8388607) 0)), h, (fun i => i), ⟨(rA <| rE rfl <| rE rfl <| rE rfl <| rX <| rX <| rA <| rE rfl <| rX <| rX <| rX <| rX <| rW <| rA <| rN), (hE rfl <| hE rfl <| hO rfl <| hE rfl <| hN), rfl, rfl, (roE rfl <| roE rfl <| roE (Qp _ _ _) <| roE rfl <| roN)⟩⟩
    ·show Exists _
     exact ⟨(false), h, (fun i => i), ⟨(rA <| rE rfl <| rE rfl <| rE rfl <| rX <| rX <| rA <| rE rfl <| rX <| rX <| rX <| rX <| rW <| rA <| rN), (hE rfl <| hE rfl <| hO rfl <| hE rfl <| hN), rfl, rfl, (roE rfl <| roE rfl <| roE (Qp _ _ _) <| roE rfl <| roN)⟩⟩
   ·show Exists _
    exact ⟨(false), h, (fun i => i), ⟨(rA <| rE rfl <| rE rfl <| rE rfl <| rX <| rX <| rA <| rE rfl <| rX <| rX <| rX <| rX <| rW <| rA <| rN), (hE rfl <| hE rfl <| hO rfl <| hE rfl <| hN), rfl, rfl, (roE rfl <| roE rfl <| roE (Qp _ _ _) <| roE rfl <| roN)⟩⟩
  rintro s12 h
  dsimp only [Yb] at h
  apply iU h <;> intro h
  ·show Exists _
   exact ⟨(2143289344), h, (fun i => i), ⟨(rA <| rE rfl <| rE rfl <| rE rfl <| rX <| rX <| rX <| rX <| rX <| rX <| rV <| rA <| rN), (hE rfl <| hE rfl <| hO rfl <| hE rfl <| hN), rfl, rfl, (roE rfl <| roE rfl <| roE (Qp _ _ _) <| roE rfl <| roN)⟩⟩
  ·show Exists _
   exact ⟨(v1.N'), h, (fun i => i), ⟨(rA <| rE rfl <| rE rfl <| rE rfl <| rX <| rX <| rX <| rX <| rX <| rX <| rV <| rA <| rN), (hE rfl <| hE rfl <| hO rfl <| hE rfl <| hN), rfl, rfl, (roE rfl <| roE rfl <| roE (Qp _ _ _) <| roE rfl <| roN)⟩⟩
 rintro c9 h
 dsimp only [Zq] at h
 refine Vn (σ := Int) (fun _ => (.any :: .ptr 0 0 :: .ptr 1 0 :: .ptr 3 0 :: a16 (a16 (a16 (a4 (.any :: [])))) : List AV)) (fun c22 => (.cells (iI v.Kind :: iW v.N' :: iS v.Text :: .p (.slice 4 (Q0.rows v.Items)) :: []) :: .cells (iI 0 :: iW 0 :: iS [] :: .p .nilSlice :: []) :: .cells (Ud Q0.cells v1.Items) :: .cells (iI v1.Kind :: iW c22 :: iS v1.Text :: .slice 4 2 0 v1.Items.length :: []) :: [] : List AObj)) (fun c22 => Ze R_polyglotref18_Norm N v v1 c22 = some r) (fun _ _ => lb) ?_ ?_
 ·refine Vn (σ := Bool) (fun s25 => (.any :: .ptr 0 0 :: .ptr 1 0 :: .ptr 3 0 :: a16 (a16 (.any :: .p (.bool s25) :: a16 (a2 (.any :: [])))) : List AV)) (fun _ => (.cells (iI v.Kind :: iW v.N' :: iS v.Text :: .p (.slice 4 (Q0.rows v.Items)) :: []) :: .cells (iI 0 :: iW 0 :: iS [] :: .p .nilSlice :: []) :: .cells (Ud Q0.cells v1.Items) :: .cells (iI v1.Kind :: iW c9 :: iS v1.Text :: .slice 4 2 0 v1.Items.length :: []) :: [] : List AObj)) (fun s25 => Yh N (Ze R_polyglotref18_Norm N v v1) c9 s25 = some r) (fun _ _ => lb) ?_ ?_
  ·apply iU h <;> intro h
   ·apply iU h <;> intro h
    ·show Exists _
     exact ⟨((Q5 .neq (Gf .u64 v.N' 4503599627370495) 0)), h, (fun i => i), ⟨(rA <| rE rfl <| rE rfl <| rE rfl <| rX <| rX <| rX <| rX <| rA <| rE rfl <| rX <| rX <| rW <| rA <| rN), (hE rfl <| hE rfl <| hO rfl <| hE rfl <| hN), rfl, rfl, (roE rfl <| roE rfl <| roE (Qp _ _ _) <| roE rfl <| roN)⟩⟩
    ·show Exists _
     exact ⟨(false), h, (fun i => i), ⟨(rA <| rE rfl <| rE rfl <| rE rfl <| rX <| rX <| rX <| rX <| rA <| rE rfl <| rX <| rX <| rW <| rA <| rN), (hE rfl <| hE rfl <| hO rfl <| hE rfl <| hN), rfl, rfl, (roE rfl <| roE rfl <| roE (Qp _ _ _) <| roE rfl <| roN)⟩⟩
   ·show Exists _
    exact ⟨(false), h, (fun i => i), ⟨(rA <| rE rfl <| rE rfl <| rE rfl <| rX <| rX <| rX <| rX <| rA <| rE rfl <| rX <| rX <| rW <| rA <| rN), (hE rfl <| hE rfl <| hO rfl <| hE rfl <| hN), rfl, rfl, (roE rfl <| roE rfl <| roE (Qp _ _ _) <| roE rfl <| roN)⟩⟩
  rintro s25 h
  dsimp only [Yh] at h
  apply iU h <;> intro h
  ·show Exists _
   exact ⟨(9221120237041090560), h, (fun i => i), ⟨(rA <| rE rfl <| rE rfl <| rE rfl <| rX <| rX <| rX <| rX <| rX <| rX <| rV <| rA <| rN), (hE rfl <| hE rfl <| hO rfl <| hE rfl <| hN), rfl, rfl, (roE rfl <| roE rfl <| roE (Qp _ _ _) <| roE rfl <| roN)⟩⟩
  ·show Exists _
   exact ⟨(c9), h, (fun i => i), ⟨(rA <| rE rfl <| rE rfl <| rE rfl <| rX <| rX <| rX <| rX <| rX <| rX <| rV <| rA <| rN), (hE rfl <| hE rfl <| hO rfl <| hE rfl <| hN), rfl, rfl, (roE rfl <| roE rfl <| roE (Qp _ _ _) <| roE rfl <| roN)⟩⟩
 rintro c22 h
 dsimp only [Ze] at h
 refine lpC (τ := Int × (List Q0)) (fun ⟨i45, _⟩ => (.any :: .ptr 0 0 :: .ptr 1 0 :: .ptr 3 0 :: iI i45 :: a16 (a16 (a16 (a4 ([])))) : List AV)) (fun ⟨_, l46⟩ => (.cells (iI v.Kind :: iW v.N' :: iS v.Text :: .p (.slice 4 (Q0.rows v.Items)) :: []) :: .cells (iI 0 :: iW 0 :: iS [] :: .p .nilSlice :: []) :: .dead :: .cells (iI v1.Kind :: iW c22 :: iS v1.Text :: .slice 4 4 0 l46.length :: []) :: .cells (Ud Q0.cells l46) :: [] : List AObj)) (fun n4 ⟨i45, l46⟩ => Yd R_polyglotref18_Norm N v v1 c22 n4 i45 l46) (0, v1.Items) h (rho [0, 1, 2, 3, 2]) ⟨(rA <| rE rfl <| rE rfl <| rE rfl <| rE rfl <| rX <| rX <| rX <| rX <| rX <| rX <| rV <| rN), (hE rfl <| hE rfl <| hD <| hE rfl <| hO rfl <| hN), rfl, rfl, (roE rfl <| roE rfl <| roE rfl <| roE rfl <| roE (Qp _ _ _) <| roN)⟩ fun n4 ⟨i45, l46⟩ h => ?_
 simp only [Yd] at h
 apply iU h <;> intro h
 ·refine Qd ?_
  refine Q0.xR h fun y48 h => ?_
  refine cD h hR_polyglotref18_Norm (.cons q4 .nil) fun v50 h => ?_
  obtain ⟨y52, hy53, h⟩ := Q58 h
  refine Q3m (Qa9 hy53 (by simp)) ?_
  refine Q3m (Qcl (c := Q0.cells) (e := 4) (fun _ => rfl) hy53 (off := 0) (by omega) rfl (by decide)) ?_
  refine Qbf (c := Q0.cells) (e := 4) (fun _ => rfl) hy53 v50 (off := 0) (by first | omega | (simp only [Gf, orI, Qpb, Qan, Jq, Q21]; omega)) rfl (by simp) ?_
  show Exists _
  exact ⟨(n4, (IntKind.wrap .i64 (i45 + 1)), ((l46 : List Q0).set (Int.toNat i45) v50)), h, Nat.lt_succ_self _, (fun i => i), ⟨(rA <| rE rfl <| rE rfl <| rE rfl <| rE rfl <| rX <| rX <| rX <| rX <| rX <| rX <| rV <| rN), (hE rfl <| hE rfl <| hD <| hC rfl (rE rfl <| rE rfl <| rE rfl <| rL (by simp) rfl <| rN) <| hO rfl <| hN), rfl, rfl, (roE rfl <| roE rfl <| roE rfl <| roE rfl <| roE (Qp _ _ _) <| roN)⟩⟩
 ·obtain rfl := Qm h; exact (Frz.agg' (.cons (.p _) (.cons (.p _) (.cons (.p _) (.cons (Q0.frz_own (l := l46) rfl trivial (by simp)) .nil)))))
def Zl : Nat → Q0 → Option (Q0)
 | 0 => fun _ => none
 | N + 1 => W6 (Zl N) N
theorem Uz {N} {v} {r} (h : Zl N v = some r) : Y9 Tryd.prog G1 31 [.agg (Q0.cells v)] (.agg (Q0.cells r)) := by
 induction N generalizing v r with
 | zero => simp [Zl] at h
 | succ N ih => exact Q0w (fun h => ih h) h
def Xg (N : Nat) (v : Q0) : Option (Bool) :=
 (Zl N v).bind fun v1 =>
 (Yj N v v1).bind fun v3 =>
 some v3
theorem Q01 {N} {v} {r} (h : Xg N v = some r) : Y9 Tryd.prog G1 9 [.agg (Q0.cells v)] (.bool r) := by
 refine Q6 k9 ?_
 unfold Xg at h
 refine Qd ?_
 refine cD h Uz (.cons q4 .nil) fun v1 h => ?_
 refine cD h Q10 (.cons q4 p1) fun v3 h => ?_
 cases h; exact (.p _)
def Xe (_N : Nat) (v : Q0) : Option (Bool) :=
 cond (Q66 .neq v.Text [])
 (some false)
 (cond (!(Q5 .eql v.Kind 24))
 (cond (Q5 .neq v.N' 0)
 (some false)
 (cond (Q5 .eql v.Kind 24)
 (cond (Q5 .geq v.N' 1)
 (some (Q5 .leq v.N' 24))
 (some false))
 (cond (Q5 .eql v.Kind 25)
 (some (Q5 .eql ((Q0.rows v.Items).length : Int) 2))
 (cond (Q5 .neq v.Kind 23)
 (some true)
 (some (Q5 .eql ((((Q0.rows v.Items).length : Int) : Int).tmod 2) 0))))))
 (cond (Q5 .eql v.Kind 24)
 (cond (Q5 .geq v.N' 1)
 (some (Q5 .leq v.N' 24))
 (some false))
 (cond (Q5 .eql v.Kind 25)
 (some (Q5 .eql ((Q0.rows v.Items).length : Int) 2))
 (cond (Q5 .neq v.Kind 23)
 (some true)
 (some (Q5 .eql ((((Q0.rows v.Items).length : Int) : Int).tmod 2) 0))))))
theorem Gz {N} {v} {r} (h : Xe N v = some r) : Y9 Tryd.prog G1 56 [.agg (Q0.cells v)] (.bool r) := by
 refine Q6 k56 ?_
 unfold Xe at h
 apply iU h <;> intro h
 ·cases h; exact (.p _)
 ·apply iU h <;> intro h
  ·apply iU h <;> intro h
   ·cases h; exact (.p _)
   ·apply iU h <;> intro h
    ·apply iU h <;> intro h
     ·cases h; exact (.p _)
     ·cases h; exact (.p _)
    ·apply iU h <;> intro h
     ·cases h; exact (.p _)
     ·apply iU h <;> intro h
      ·cases h; exact (.p _)
      ·cases h; exact (.p _)
  ·apply iU h <;> intro h
   ·apply iU h <;> intro h
    ·cases h; exact (.p _)
    ·cases h; exact (.p _)
   ·apply iU h <;> intro h
    ·cases h; exact (.p _)
    ·apply iU h <;> intro h
     ·cases h; exact (.p _)
     ·cases h; exact (.p _)
def X8 (_N : Nat) (v : Q0) : Option (Bool) :=
 cond (Q5 .eql v.Kind 11)
 (cond (Q5 .eql (Gf .u64 v.N' 2139095040) 2139095040)
 (cond (Q5 .neq (Gf .u64 v.N' 8388607) 0)
 (some true)
 (cond (Q5 .eql v.Kind 12)
 (cond (Q5 .eql (Gf .u64 v.N' 9218868437227405312) 9218868437227405312)
 (some (Q5 .neq (Gf .u64 v.N' 4503599627370495) 0))
 (some false))
 (some false)))
 (cond (Q5 .eql v.Kind 12)
 (cond (Q5 .eql (Gf .u64 v.N' 9218868437227405312) 9218868437227405312)
 (some (Q5 .neq (Gf .u64 v.N' 4503599627370495) 0))
 (some false))
 (some false)))
 (cond (Q5 .eql v.Kind 12)
 (cond (Q5 .eql (Gf .u64 v.N' 9218868437227405312) 9218868437227405312)
 (some (Q5 .neq (Gf .u64 v.N' 4503599627370495) 0))
 (some false))
 (some false))
theorem Uy {N} {v} {r} (h : X8 N v = some r) : Y9 Tryd.prog G1 102 [.agg (Q0.cells v)] (.bool r) := by
 refine Q6 Qh3 ?_
 unfold X8 at h
 apply iU h <;> intro h
 ·apply iU h <;> intro h
  ·apply iU h <;> intro h
   ·cases h; exact (.p _)
   ·apply iU h <;> intro h
    ·apply iU h <;> intro h
     ·cases h; exact (.p _)
     ·cases h; exact (.p _)
    ·cases h; exact (.p _)
  ·apply iU h <;> intro h
   ·apply iU h <;> intro h
    ·cases h; exact (.p _)
    ·cases h; exact (.p _)
   ·cases h; exact (.p _)
 ·apply iU h <;> intro h
  ·apply iU h <;> intro h
   ·cases h; exact (.p _)
   ·cases h; exact (.p _)
  ·cases h; exact (.p _)
def Y1 (R_polyglotref17_alike : Q0 → Q0 → Option (Bool)) (N : Nat) (a : Q0) (b : Q0) : Nat → Int → Option (Bool)
 | 0, _ => none
 | n + 1, i28 =>
  cond (Q5 .lss i28 ((Q0.rows a.Items).length : Int))
  ((idx a.Items i28).bind fun y30 =>
  (idx b.Items i28).bind fun y32 =>
  (R_polyglotref17_alike y30 y32).bind fun v34 =>
  cond (!v34)
  (some false)
  (Y1 R_polyglotref17_alike N a b n (IntKind.wrap .i64 (i28 + 1))))
  (some true)
def Y0 (R_polyglotref17_alike : Q0 → Q0 → Option (Bool)) (N : Nat) (a : Q0) (b : Q0) : Nat → Int → Option (Bool)
 | 0, _ => none
 | n + 1, i56 =>
  cond (Q5 .lss i56 ((Q0.rows a.Items).length : Int))
  ((idx a.Items i56).bind fun y58 =>
  (idx b.Items i56).bind fun y60 =>
  (R_polyglotref17_alike y58 y60).bind fun v62 =>
  cond (!v62)
  (some false)
  (Y0 R_polyglotref17_alike N a b n (IntKind.wrap .i64 (i56 + 1))))
  (some true)
def Wu (R_polyglotref17_alike : Q0 → Q0 → Option (Bool)) (N : Nat) (a : Q0) (b : Q0) : Option (Bool) :=
 cond (Q5 .neq a.Kind b.Kind)
 (some false)
 (cond (Q5 .neq a.N' b.N')
 ((X8 N a).bind fun v3 =>
 cond v3
 ((X8 N b).bind fun v6 =>
 cond (!v6)
 (some false)
 (cond (Q66 .neq a.Text b.Text)
 (some false)
 (cond (Q5 .neq ((Q0.rows a.Items).length : Int) ((Q0.rows b.Items).length : Int))
 (some false)
 (Y1 R_polyglotref17_alike N a b N 0))))
 (some false))
 (cond (Q66 .neq a.Text b.Text)
 (some false)
 (cond (Q5 .neq ((Q0.rows a.Items).length : Int) ((Q0.rows b.Items).length : Int))
 (some false)
 (Y0 R_polyglotref17_alike N a b N 0))))
theorem Q0f {R_polyglotref17_alike : Q0 → Q0 → Option (Bool)} (hR_polyglotref17_alike : ∀ {a} {b} {r}, R_polyglotref17_alike a b = some r → Y9 Tryd.prog G1 82 [.agg (Q0.cells a), .agg (Q0.cells b)] (.bool r)) {N} {a} {b} {r} (h : Wu R_polyglotref17_alike N a b = some r) : Y9 Tryd.prog G1 82 [.agg (Q0.cells a), .agg (Q0.cells b)] (.bool r) := by
 refine Q6 k82 ?_
 unfold Wu at h
 apply iU h <;> intro h
 ·cases h; exact (.p _)
 ·apply iU h <;> intro h
  ·refine cP h Uy (.cons q4 .nil) fun v3 h => ?_
   apply iU h <;> intro h
   ·refine cP h Uy (.cons q4 .nil) fun v6 h => ?_
    apply iU h <;> intro h
    ·cases h; exact (.p _)
    ·apply iU h <;> intro h
     ·cases h; exact (.p _)
     ·apply iU h <;> intro h
      ·cases h; exact (.p _)
      ·refine lpC (τ := Int) (fun i28 => (.any :: .any :: .ptr 0 0 :: .ptr 1 0 :: .any :: iI i28 :: a16 (a16 (a16 (a8 ([])))) : List AV)) (fun _ => (.cells (iI a.Kind :: iW a.N' :: iS a.Text :: .p (.slice 4 (Q0.rows a.Items)) :: []) :: .cells (iI b.Kind :: iW b.N' :: iS b.Text :: .p (.slice 4 (Q0.rows b.Items)) :: []) :: [] : List AObj)) (fun n0 i28 => Y1 R_polyglotref17_alike N a b n0 i28) (0) h (fun i => i) ⟨(rW <| rE rfl <| rE rfl <| rA <| rE rfl <| rX <| rX <| rX <| rX <| rX <| rX <| rX <| rN), (hE rfl <| hE rfl <| hN), rfl, rfl, (roE rfl <| roE rfl <| roN)⟩ fun n0 i28 h => ?_
       simp only [Y1] at h
       apply iU h <;> intro h
       ·refine Qd ?_
        refine Q0.xR h fun y30 h => ?_
        refine Q0.xR h fun y32 h => ?_
        refine cD h hR_polyglotref17_alike (.cons q4 (.cons q4 .nil)) fun v34 h => ?_
        apply iU h <;> intro h
        ·cases h; exact (.p _)
        ·show Exists _
         exact ⟨(n0, (IntKind.wrap .i64 (i28 + 1))), h, Nat.lt_succ_self _, (fun i => i), ⟨(rW <| rE rfl <| rE rfl <| rA <| rE rfl <| rX <| rX <| rX <| rX <| rX <| rX <| rX <| rN), (hE rfl <| hE rfl <| hN), rfl, rfl, (roE rfl <| roE rfl <| roN)⟩⟩
       ·cases h; exact (.p _)
   ·cases h; exact (.p _)
  ·apply iU h <;> intro h
   ·cases h; exact (.p _)
   ·apply iU h <;> intro h
    ·cases h; exact (.p _)
    ·refine lpC (τ := Int) (fun i56 => (.any :: .any :: .ptr 0 0 :: .ptr 1 0 :: .any :: iI i56 :: a16 (a16 (a16 (a8 ([])))) : List AV)) (fun _ => (.cells (iI a.Kind :: iW a.N' :: iS a.Text :: .p (.slice 4 (Q0.rows a.Items)) :: []) :: .cells (iI b.Kind :: iW b.N' :: iS b.Text :: .p (.slice 4 (Q0.rows b.Items)) :: []) :: [] : List AObj)) (fun n1 i56 => Y0 R_polyglotref17_alike N a b n1 i56) (0) h (fun i => i) ⟨(rW <| rE rfl <| rE rfl <| rA <| rE rfl <| rX <| rX <| rX <| rX <| rX <| rX <| rX <| rN), (hE rfl <| hE rfl <| hN), rfl, rfl, (roE rfl <| roE rfl <| roN)⟩ fun n1 i56 h => ?_
     simp only [Y0] at h
     apply iU h <;> intro h
     ·refine Qd ?_
      refine Q0.xR h fun y58 h => ?_
      refine Q0.xR h fun y60 h => ?_
      refine cD h hR_polyglotref17_alike (.cons q4 (.cons q4 .nil)) fun v62 h => ?_
      apply iU h <;> intro h
      ·cases h; exact (.p _)
      ·show Exists _
       exact ⟨(n1, (IntKind.wrap .i64 (i56 + 1))), h, Nat.lt_succ_self _, (fun i => i), ⟨(rW <| rE rfl <| rE rfl <| rA <| rE rfl <| rX <| rX <| rX <| rX <| rX <| rX <| rX <| rN), (hE rfl <| hE rfl <| hN), rfl, rfl, (roE rfl <| roE rfl <| roN)⟩⟩
     ·cases h; exact (.p _)
def Y6 : Nat → Q0 → Q0 → Option (Bool)
 | 0 => fun _ _ => none
 | N + 1 => Wu (Y6 N) N
theorem Q0a {N} {a} {b} {r} (h : Y6 N a b = some r) : Y9 Tryd.prog G1 82 [.agg (Q0.cells a), .agg (Q0.cells b)] (.bool r) := by
 induction N generalizing a b r with
 | zero => simp [Y6] at h
 | succ N ih => exact Q0f (fun h => ih h) h
def Y2 (N : Nat) (k0 : Int → Option (Bool)) (items : List Q0) (i30 : Int) : Nat → Int → Option (Bool)
 | 0, _ => none
 | n + 1, k49 =>
  cond (Q5 .lss k49 i30)
  ((idx items i30).bind fun y51 =>
  (idx items k49).bind fun y53 =>
  (Y6 N y51 y53).bind fun v55 =>
  cond v55
  (some true)
  (Y2 N k0 items i30 n (IntKind.wrap .i64 (k49 + 2))))
  (k0 (IntKind.wrap .i64 (i30 + 2)))
def Z8 (N : Nat) (items : List Q0) : Nat → Int → Option (Bool)
 | 0, _ => none
 | n + 1, i30 =>
  cond (Q5 .lss i30 ((Q0.rows items).length : Int))
  (Y2 N (Z8 N items n) items i30 N 0)
  (some false)
def Xu (N : Nat) (items : List Q0) : Option (Bool) :=
 Z8 N items N 0
theorem Q0j {N} {items} {r} (h : Xu N items = some r) : Y9 Tryd.prog G1 57 [.slice 4 (Q0.rows items)] (.bool r) := by
 refine Q6 k57 ?_
 unfold Xu at h
 refine lpC (τ := Int) (fun i30 => (.p (.slice 4 (Q0.rows items)) :: .any :: .any :: iI i30 :: a16 (a4 (.any :: [])) : List AV)) (fun _ => ([] : List AObj)) (fun n0 i30 => Z8 N items n0 i30) (0) h (fun i => i) ⟨(rE rfl <| rW <| rE rfl <| rX <| rX <| rV <| rA <| rN), (hN), rfl, rfl, (roN)⟩ fun n0 i30 h => ?_
 simp only [Z8] at h
 apply iU h <;> intro h
 ·refine lpC (τ := Int) (fun k49 => (.p (.slice 4 (Q0.rows items)) :: .any :: .any :: iI i30 :: iI k49 :: a16 (a4 ([])) : List AV)) (fun _ => ([] : List AObj)) (fun n1 k49 => Y2 N (Z8 N items n0) items i30 n1 k49) (0) h (fun i => i) ⟨(rE rfl <| rW <| rE rfl <| rE rfl <| rX <| rX <| rV <| rN), (hN), rfl, rfl, (roN)⟩ fun n1 k49 h => ?_
  simp only [Y2] at h
  apply iU h <;> intro h
  ·refine Qd ?_
   refine Q0.xR h fun y51 h => ?_
   refine Q0.xR h fun y53 h => ?_
   refine cD h Q0a (.cons q4 (.cons q4 .nil)) fun v55 h => ?_
   apply iU h <;> intro h
   ·cases h; exact (.p _)
   ·show Exists _
    exact ⟨(n1, (IntKind.wrap .i64 (k49 + 2))), h, Nat.lt_succ_self _, (fun i => i), ⟨(rE rfl <| rW <| rE rfl <| rE rfl <| rX <| rX <| rV <| rN), (hN), rfl, rfl, (roN)⟩⟩
  ·show Exists _
   exact ⟨(n0, (IntKind.wrap .i64 (i30 + 2))), h, Nat.lt_succ_self _, (fun i => i), ⟨(rE rfl <| rW <| rE rfl <| rX <| rX <| rV <| rA <| rN), (hN), rfl, rfl, (roN)⟩⟩
 ·cases h; exact (.p _)
def Q4 (_N : Nat) (s_0 : List UInt8) (i : Int) (low : Int) (high : Int) : Option (Bool) :=
 cond (Q5 .lss i (s_0.length : Int))
 ((idx s_0 i).bind fun b2 =>
 cond (Q5 .geq (b2.toNat : Int) low)
 ((idx s_0 i).bind fun b5 =>
 some (Q5 .leq (b5.toNat : Int) high))
 (some false))
 (some false)
theorem Q9 {N} {s_0} {i} {low} {high} {r} (h : Q4 N s_0 i low high = some r) : Y9 Tryd.prog G1 108 [.str s_0, .int .i64 i, .int .u8 low, .int .u8 high] (.bool r) := by
 refine Q6 Qqh ?_
 unfold Q4 at h
 apply iU h <;> intro h
 ·refine xB h fun b2 h => ?_
  apply iU h <;> intro h
  ·refine xB h fun b5 h => ?_
   cases h; exact (.p _)
  ·cases h; exact (.p _)
 ·cases h; exact (.p _)
end
end
end Go.Av
