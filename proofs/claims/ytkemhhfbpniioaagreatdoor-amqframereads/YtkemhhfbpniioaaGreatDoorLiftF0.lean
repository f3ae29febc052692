/- The law. Part of a proof of a given statement: for every input the law returns true and the arguments read as before; no condition beyond the given row. -/
import Derived.Test.YtkemhhfbpniioaaGreatDoorLiftTy
import Derived.Test.YtkemhhfbpniioaaGreatDoorChks
import Derived.Test.YtkemhhfbpniioaaGreatDoorSeat1
import Derived.Test.YtkemhhfbpniioaaGreatDoorLiftG
import Derived.Test.YtkemhhfbpniioaaGreatDoorMans
namespace Go.Av
noncomputable section
open Go.Proofs
set_option maxRecDepth 100000
set_option maxHeartbeats 4000000
attribute [local irreducible] V9 X0 Q56 Q6j Q9 Q7t Q7s
section
def W0 (_N : Nat) (b : Qp) : Option ((List UInt8) × Qp) :=
 some ((b.b.map fun n => UInt8.ofNat n.toNat), b)
theorem Gv {N} {b} {r} (h : W0 N b = some r) : GC Tryz.prog G1 64 (.ptr 0 0 :: []) (.cells (.slice 1 1 0 b.b.length :: []) :: .cells (Yk (cI .u8) b.b) :: []) (.p (.str r.1)) (.cells (.slice 1 2 0 r.2.b.length :: []) :: .dead :: .cells (Yk (cI .u8) r.2.b) :: []) := by
 refine Q0p k64 (Nat.le_of_ble_eq_true rfl) ?_
 unfold W0 at h
 refine Qlx (l := b.b) (by simp) ?_
 obtain rfl := Qb h
 show Exists _
 exact ⟨(rho [0, 1, 1]), ⟨(rE rfl <| rN), (hE rfl <| hD <| hO rfl <| hN), rfl, rfl, (roE rfl <| roE rfl <| roE (Q7 _ _ _) <| roN)⟩⟩
def W9 (rz : Q0 → Option (Q0)) (N : Nat) (v : Q0) (c13 : Int) : Nat → Int → (List Q0) → Option (Q0)
 | 0, _, _ => none
 | n + 1, s39, l40 =>
  cond (Q9 .lss s39 ((Q0.rows v.Items).length : Int))
  ((idx v.Items s39).bind fun y42 =>
  (rz y42).bind fun v44 =>
  cond (Nat.ble ((l40.length + 1 + 4096) * 56) 17592186044416) (W9 rz N v c13 n (IntKind.wrap .i64 (s39 + 1)) (l40 ++ [v44])) none)
  (some (⟨v.Kind, c13, v.Text, l40⟩ : Q0))
def Yo (rz : Q0 → Option (Q0)) (N : Nat) (v : Q0) (c13 : Int) : Option (Q0) :=
 W9 rz N v c13 N 0 []
def W5 (_N : Nat) (k0 : Int → Option (Q0)) (v : Q0) (s22 : Bool) : Option (Q0) :=
 cond s22
 (k0 9221120237041090560)
 (k0 v.N')
def W1 (N : Nat) (k0 : Int → Option (Q0)) (v : Q0) (s16 : Bool) : Option (Q0) :=
 cond s16
 (k0 2143289344)
 (cond (Q9 .eql v.Kind 12)
 (cond (Q9 .eql (Q13 .u64 (Q1g .u64 v.N' 52) 2047) 2047)
 (W5 N k0 v (Q9 .neq (Q0d .u64 v.N' 12) 0))
 (W5 N k0 v false))
 (W5 N k0 v false))
def Ub (rz : Q0 → Option (Q0)) (N : Nat) (v : Q0) : Option (Q0) :=
 cond (Q9 .eql v.Kind 11)
 (cond (Q9 .eql (Q13 .u64 (Q1g .u64 v.N' 23) 255) 255)
 (W1 N (Yo rz N v) v (Q9 .neq (Q0d .u64 v.N' 41) 0))
 (W1 N (Yo rz N v) v false))
 (W1 N (Yo rz N v) v false)
theorem Q50 {rz : Q0 → Option (Q0)} (hy2 : ∀ {v} {r}, rz v = some r → Zx Tryz.prog G1 21 [.agg (Q0.cells v)] (.agg (Q0.cells r))) {N} {v} {r} (h : Ub rz N v = some r) : Zx Tryz.prog G1 21 [.agg (Q0.cells v)] (.agg (Q0.cells r)) := by
 refine Q6 k21 ?_
 unfold Ub at h
 refine Gy (σ := Int) (fun _ => (.any :: .ptr 0 0 :: .ptr 1 0 :: .ptr 2 0 :: a16 (a16 (a16 (a8 (a4 (.any :: []))))) : List AV)) (fun c13 => (.cells (iI v.Kind :: iW v.N' :: iS v.Text :: .p (.slice 4 (Q0.rows v.Items)) :: []) :: .cells (iI 0 :: iW 0 :: iS [] :: .p .nilSlice :: []) :: .cells (iI v.Kind :: iW c13 :: iS v.Text :: .p .nilSlice :: []) :: [] : List AObj)) (fun c13 => Yo rz N v c13 = some r) (fun _ _ => lb) ?_ ?_
 ·refine Gy (σ := Bool) (fun s16 => (.any :: .ptr 0 0 :: .ptr 1 0 :: .ptr 2 0 :: a8 (.any :: .p (.bool s16) :: a16 (a16 (a16 (a2 (.any :: []))))) : List AV)) (fun _ => (.cells (iI v.Kind :: iW v.N' :: iS v.Text :: .p (.slice 4 (Q0.rows v.Items)) :: []) :: .cells (iI 0 :: iW 0 :: iS [] :: .p .nilSlice :: []) :: .cells (iI v.Kind :: iW v.N' :: iS v.Text :: .p .nilSlice :: []) :: [] : List AObj)) (fun s16 => W1 N (Yo rz N v) v s16 = some r) (fun _ _ => lb) ?_ ?_
  ·apply iU h <;> intro h
   ·apply iU h <;> intro h
    ·show Exists _
     exact ⟨((Q9 .neq (Q0d .u64 v.N' 41) 0)), h, (fun i => i), ⟨(rA <| rE rfl <| rE rfl <| rE rfl <| rX <| rA <| rE rfl <| rX <| rX <| rX <| rX <| rX <| rX <| rW <| rA <| rN), (hE rfl <| hE rfl <| hE rfl <| hN), rfl, rfl, (roE rfl <| roE rfl <| roE rfl <| roN)⟩⟩
    ·show Exists _
     exact ⟨(false), h, (fun i => i), ⟨(rA <| rE rfl <| rE rfl <| rE rfl <| rX <| rA <| rE rfl <| rX <| rX <| rX <| rX <| rX <| rX <| rW <| rA <| rN), (hE rfl <| hE rfl <| hE rfl <| hN), rfl, rfl, (roE rfl <| roE rfl <| roE rfl <| roN)⟩⟩
   ·show Exists _
    exact ⟨(false), h, (fun i => i), ⟨(rA <| rE rfl <| rE rfl <| rE rfl <| rX <| rA <| rE rfl <| rX <| rX <| rX <| rX <| rX <| rX <| rW <| rA <| rN), (hE rfl <| hE rfl <| hE rfl <| hN), rfl, rfl, (roE rfl <| roE rfl <| roE rfl <| roN)⟩⟩
  rintro s16 h
  dsimp only [W1] at h
  apply iU h <;> intro h
  ·show Exists _
   exact ⟨(2143289344), h, (fun i => i), ⟨(rA <| rE rfl <| rE rfl <| rE rfl <| rX <| rX <| rX <| rX <| rX <| rX <| rX <| rV <| rA <| rN), (hE rfl <| hE rfl <| hE rfl <| hN), rfl, rfl, (roE rfl <| roE rfl <| roE rfl <| roN)⟩⟩
  ·refine Gy (σ := Bool) (fun s22 => (.any :: .ptr 0 0 :: .ptr 1 0 :: .ptr 2 0 :: a16 (a8 (a2 (.any :: .p (.bool s22) :: a16 (a16 (.any :: []))))) : List AV)) (fun _ => (.cells (iI v.Kind :: iW v.N' :: iS v.Text :: .p (.slice 4 (Q0.rows v.Items)) :: []) :: .cells (iI 0 :: iW 0 :: iS [] :: .p .nilSlice :: []) :: .cells (iI v.Kind :: iW v.N' :: iS v.Text :: .p .nilSlice :: []) :: [] : List AObj)) (fun s22 => W5 N (Yo rz N v) v s22 = some r) (fun _ _ => lb) ?_ ?_
   ·apply iU h <;> intro h
    ·apply iU h <;> intro h
     ·show Exists _
      exact ⟨((Q9 .neq (Q0d .u64 v.N' 12) 0)), h, (fun i => i), ⟨(rA <| rE rfl <| rE rfl <| rE rfl <| rX <| rX <| rX <| rW <| rA <| rE rfl <| rX <| rX <| rX <| rX <| rA <| rN), (hE rfl <| hE rfl <| hE rfl <| hN), rfl, rfl, (roE rfl <| roE rfl <| roE rfl <| roN)⟩⟩
     ·show Exists _
      exact ⟨(false), h, (fun i => i), ⟨(rA <| rE rfl <| rE rfl <| rE rfl <| rX <| rX <| rX <| rW <| rA <| rE rfl <| rX <| rX <| rX <| rX <| rA <| rN), (hE rfl <| hE rfl <| hE rfl <| hN), rfl, rfl, (roE rfl <| roE rfl <| roE rfl <| roN)⟩⟩
    ·show Exists _
     exact ⟨(false), h, (fun i => i), ⟨(rA <| rE rfl <| rE rfl <| rE rfl <| rX <| rX <| rX <| rW <| rA <| rE rfl <| rX <| rX <| rX <| rX <| rA <| rN), (hE rfl <| hE rfl <| hE rfl <| hN), rfl, rfl, (roE rfl <| roE rfl <| roE rfl <| roN)⟩⟩
   rintro s22 h
   dsimp only [W5] at h
   apply iU h <;> intro h
   ·show Exists _
    exact ⟨(9221120237041090560), h, (fun i => i), ⟨(rA <| rE rfl <| rE rfl <| rE rfl <| rX <| rX <| rX <| rX <| rX <| rX <| rX <| rV <| rA <| rN), (hE rfl <| hE rfl <| hE rfl <| hN), rfl, rfl, (roE rfl <| roE rfl <| roE rfl <| roN)⟩⟩
   ·show Exists _
    exact ⟨(v.N'), h, (fun i => i), ⟨(rA <| rE rfl <| rE rfl <| rE rfl <| rX <| rX <| rX <| rX <| rX <| rX <| rX <| rV <| rA <| rN), (hE rfl <| hE rfl <| hE rfl <| hN), rfl, rfl, (roE rfl <| roE rfl <| roE rfl <| roN)⟩⟩
 rintro c13 h
 dsimp only [Yo] at h
 refine lpC (τ := Int × (List Q0)) (fun ⟨s39, _⟩ => (.any :: .any :: .ptr 1 0 :: .ptr 2 0 :: a16 (a16 (a8 (a4 (a2 (.p (.slice 4 (Q0.rows v.Items)) :: iI ((Q0.rows v.Items).length : Int) :: iI s39 :: a8 (a4 ([]))))))) : List AV)) (fun ⟨_, l40⟩ => (.cells (iI v.Kind :: iW v.N' :: iS v.Text :: .p (.slice 4 (Q0.rows v.Items)) :: []) :: .cells (iI 0 :: iW 0 :: iS [] :: .p .nilSlice :: []) :: .cells (iI v.Kind :: iW c13 :: iS v.Text :: .slice 4 3 0 l40.length :: []) :: .cells (Yk Q0.cells l40) :: [] : List AObj)) (fun n3 ⟨s39, l40⟩ => W9 rz N v c13 n3 s39 l40) (0, []) h (fun i => i) ⟨(rW <| rE rfl <| rE rfl <| rX <| rX <| rX <| rX <| rX <| rV <| rW <| rE rfl <| rE rfl <| rE rfl <| rX <| rV <| rN), (hE rfl <| hE rfl <| hC rfl (rE rfl <| rE rfl <| rE rfl <| rS <| rN) <| hV lb <| hN), rfl, rfl, (roE rfl <| roE rfl <| roE rfl <| roE (Q7 _ _ _) <| roN)⟩ fun n3 ⟨s39, l40⟩ h => ?_
 simp only [W9] at h
 apply iU h <;> intro h
 ·refine Q0.xR h fun y42 h => ?_
  refine Qh ?_
  refine cD h hy2 (.cons q4 .nil) fun v44 h => ?_
  obtain ⟨hk46, h⟩ := Q31 h
  refine Q26 (Xo (c := Q0.cells) (e := 4) (fun _ => rfl) (by simp) hk46) ?_
  refine Vh (c := Q0.cells) [v44] rfl ?_
  show Exists _
  exact ⟨(n3, (IntKind.wrap .i64 (s39 + 1)), (l40 ++ [v44])), h, Nat.lt_succ_self _, (rho [0, 1, 2, 6]), ⟨(rW <| rE rfl <| rE rfl <| rX <| rX <| rX <| rX <| rX <| rV <| rW <| rE rfl <| rE rfl <| rE rfl <| rX <| rV <| rN), (hE rfl <| hE rfl <| hC rfl (rE rfl <| rE rfl <| rE rfl <| rL (by simp) rfl <| rN) <| hO rfl <| hN), rfl, rfl, (roE rfl <| roE rfl <| roE rfl <| roE (Q7 _ _ _) <| roN)⟩⟩
 ·obtain rfl := Qb h; exact (Frz.agg' (.cons (.p _) (.cons (.p _) (.cons (.p _) (.cons (Q0.frz_own (l := l40) rfl trivial (by simp)) .nil)))))
def Yr : Nat → Q0 → Option (Q0)
 | 0 => fun _ => none
 | N + 1 => Ub (Yr N) N
theorem J9 {N} {v} {r} (h : Yr N v = some r) : Zx Tryz.prog G1 21 [.agg (Q0.cells v)] (.agg (Q0.cells r)) := by
 induction N generalizing v r with
 | zero => simp [Yr] at h
 | succ N ih => exact Q50 (fun h => ih h) h
def Wo (_N : Nat) (kind : Int) : Option (Bool) :=
 cond (Q9 .eql kind 15)
 (some true)
 (cond (Q9 .eql kind 18)
 (some true)
 (cond (Q9 .eql kind 19)
 (some true)
 (cond (Q9 .eql kind 20)
 (some true)
 (cond (Q9 .eql kind 21)
 (some true)
 (some false)))))
theorem Gb {N} {kind} {r} (h : Wo N kind = some r) : Zx Tryz.prog G1 112 [.int .i64 kind] (.bool r) := by
 refine Q6 Qwf ?_
 unfold Wo at h
 refine ifO h (fun hc1 h => ?_) (fun hc1 h => ?_)
 ·refine ifT hc1 ?_
  cases h; exact (.p _)
 ·refine ifO h (fun hc2 h => ?_) (fun hc2 h => ?_)
  ·refine ifT hc2 ?_
   cases h; exact (.p _)
  ·refine ifO h (fun hc3 h => ?_) (fun hc3 h => ?_)
   ·refine ifT hc3 ?_
    cases h; exact (.p _)
   ·refine ifO h (fun hc4 h => ?_) (fun hc4 h => ?_)
    ·refine ifT hc4 ?_
     cases h; exact (.p _)
    ·apply iU h <;> intro h
     ·cases h; exact (.p _)
     ·cases h; exact (.p _)
def Qj (_N : Nat) (s_0 : List UInt8) : Option (Int) :=
 (idx s_0 0).bind fun b1 =>
 (idx s_0 1).bind fun b3 =>
 (idx s_0 2).bind fun b5 =>
 (idx s_0 3).bind fun b7 =>
 (idx s_0 4).bind fun b9 =>
 (idx s_0 5).bind fun b11 =>
 (idx s_0 6).bind fun b13 =>
 (idx s_0 7).bind fun b15 =>
 some (orI .u64 (orI .u64 (orI .u64 (orI .u64 (orI .u64 (orI .u64 (orI .u64 (IntKind.wrap .u64 (b1.toNat : Int)) (Q0d .u64 (IntKind.wrap .u64 (b3.toNat : Int)) 8)) (Q0d .u64 (IntKind.wrap .u64 (b5.toNat : Int)) 16)) (Q0d .u64 (IntKind.wrap .u64 (b7.toNat : Int)) 24)) (Q0d .u64 (IntKind.wrap .u64 (b9.toNat : Int)) 32)) (Q0d .u64 (IntKind.wrap .u64 (b11.toNat : Int)) 40)) (Q0d .u64 (IntKind.wrap .u64 (b13.toNat : Int)) 48)) (Q0d .u64 (IntKind.wrap .u64 (b15.toNat : Int)) 56))
theorem Z2 {N} {s_0} {r} (h : Qj N s_0 = some r) : Zx Tryz.prog G1 154 [.str s_0] (.int .u64 r) := by
 refine Q6 Qx0 ?_
 unfold Qj at h
 refine Qh ?_
 refine xB h fun b1 h => ?_
 refine xB h fun b3 h => ?_
 refine xB h fun b5 h => ?_
 refine xB h fun b7 h => ?_
 refine xB h fun b9 h => ?_
 refine xB h fun b11 h => ?_
 refine xB h fun b13 h => ?_
 refine xB h fun b15 h => ?_
 cases h; exact (.p _)
def Zb (N : Nat) (k0 : (List UInt8) → Option (Bool)) : Nat → (List UInt8) → Option (Bool)
 | 0, _ => none
 | n + 1, s272 =>
  cond (Q9 .gtr (s272.length : Int) 32)
  ((Qj N s272).bind fun v274 =>
  cond (Nat.ble 8 s272.length && Nat.ble s272.length s272.length) ((Qj N ((s272.take s272.length).drop 8)).bind fun v277 =>
  cond (Nat.ble 16 s272.length && Nat.ble s272.length s272.length) ((Qj N ((s272.take s272.length).drop 16)).bind fun v280 =>
  cond (Nat.ble 24 s272.length && Nat.ble s272.length s272.length) ((Qj N ((s272.take s272.length).drop 24)).bind fun v283 =>
  cond (Q9 .eql (Q13 .u64 (orI .u64 (orI .u64 v274 v277) (orI .u64 v280 v283)) 9259542123273814144) 0)
  (cond (Nat.ble 32 s272.length && Nat.ble s272.length s272.length) (Zb N k0 n ((s272.take s272.length).drop 32)) none)
  (k0 s272)) none) none) none)
  (k0 s272)
def Q4 (N : Nat) : Nat → (List UInt8) → Option (Bool)
 | 0, _ => none
 | n + 1, s224 =>
  cond (Q9 .gtr (s224.length : Int) 0)
  ((idx s224 0).bind fun b226 =>
  cond (Q9 .lss (b226.toNat : Int) 128)
  (cond (Nat.ble 1 s224.length && Nat.ble s224.length s224.length) (cond (Q9 .gtr (((s224.take s224.length).drop 1).length : Int) 8)
  ((Qj N ((s224.take s224.length).drop 1)).bind fun v231 =>
  cond (Q9 .eql (Q13 .u64 v231 9259542123273814144) 0)
  (cond (Nat.ble 8 (((s224.take s224.length).drop 1).length) && Nat.ble (((s224.take s224.length).drop 1).length) ((s224.take s224.length).drop 1).length) (cond (Q9 .gtr (((((s224.take s224.length).drop 1).take (((s224.take s224.length).drop 1).length)).drop 8).length : Int) 16)
  ((Qj N ((((s224.take s224.length).drop 1).take (((s224.take s224.length).drop 1).length)).drop 8)).bind fun v236 =>
  cond (Nat.ble 8 (((((s224.take s224.length).drop 1).take (((s224.take s224.length).drop 1).length)).drop 8).length) && Nat.ble (((((s224.take s224.length).drop 1).take (((s224.take s224.length).drop 1).length)).drop 8).length) ((((s224.take s224.length).drop 1).take (((s224.take s224.length).drop 1).length)).drop 8).length) ((Qj N ((((((s224.take s224.length).drop 1).take (((s224.take s224.length).drop 1).length)).drop 8).take (((((s224.take s224.length).drop 1).take (((s224.take s224.length).drop 1).length)).drop 8).length)).drop 8)).bind fun v239 =>
  cond (Q9 .eql (Q13 .u64 (orI .u64 v236 v239) 9259542123273814144) 0)
  (cond (Nat.ble 16 (((((s224.take s224.length).drop 1).take (((s224.take s224.length).drop 1).length)).drop 8).length) && Nat.ble (((((s224.take s224.length).drop 1).take (((s224.take s224.length).drop 1).length)).drop 8).length) ((((s224.take s224.length).drop 1).take (((s224.take s224.length).drop 1).length)).drop 8).length) (Zb N (Q4 N n) N ((((((s224.take s224.length).drop 1).take (((s224.take s224.length).drop 1).length)).drop 8).take (((((s224.take s224.length).drop 1).take (((s224.take s224.length).drop 1).length)).drop 8).length)).drop 16)) none)
  (Q4 N n ((((s224.take s224.length).drop 1).take (((s224.take s224.length).drop 1).length)).drop 8))) none)
  (Q4 N n ((((s224.take s224.length).drop 1).take (((s224.take s224.length).drop 1).length)).drop 8))) none)
  (Q4 N n ((s224.take s224.length).drop 1)))
  (Q4 N n ((s224.take s224.length).drop 1))) none)
  ((idx gtab0 (b226.toNat : Int)).bind fun y287 =>
  (idx gtab1 (Q1g .u8 y287 4)).bind fun y289 =>
  cond (Q9 .eql (IntKind.wrap .i64 (Q13 .u8 y287 7)) 2)
  (cond (Q9 .lss (s224.length : Int) 2)
  (some false)
  ((idx s224 1).bind fun b293 =>
  cond (Q9 .lss (b293.toNat : Int) y289.1)
  (some false)
  ((idx s224 1).bind fun b296 =>
  cond (Q9 .lss y289.2 (b296.toNat : Int))
  (some false)
  (cond (Nat.ble 2 s224.length && Nat.ble s224.length s224.length) (Q4 N n ((s224.take s224.length).drop 2)) none))))
  (cond (Q9 .eql (IntKind.wrap .i64 (Q13 .u8 y287 7)) 3)
  (cond (Q9 .lss (s224.length : Int) 3)
  (some false)
  ((idx s224 1).bind fun b302 =>
  cond (Q9 .lss (b302.toNat : Int) y289.1)
  (some false)
  ((idx s224 1).bind fun b305 =>
  cond (Q9 .lss y289.2 (b305.toNat : Int))
  (some false)
  ((idx s224 2).bind fun b308 =>
  cond (Q9 .lss (b308.toNat : Int) 128)
  (some false)
  ((idx s224 2).bind fun b311 =>
  cond (Q9 .lss 191 (b311.toNat : Int))
  (some false)
  (cond (Nat.ble 3 s224.length && Nat.ble s224.length s224.length) (Q4 N n ((s224.take s224.length).drop 3)) none))))))
  (cond (Q9 .eql (IntKind.wrap .i64 (Q13 .u8 y287 7)) 4)
  (cond (Q9 .lss (s224.length : Int) 4)
  (some false)
  ((idx s224 1).bind fun b317 =>
  cond (Q9 .lss (b317.toNat : Int) y289.1)
  (some false)
  ((idx s224 1).bind fun b320 =>
  cond (Q9 .lss y289.2 (b320.toNat : Int))
  (some false)
  ((idx s224 2).bind fun b323 =>
  cond (Q9 .lss (b323.toNat : Int) 128)
  (some false)
  ((idx s224 2).bind fun b326 =>
  cond (Q9 .lss 191 (b326.toNat : Int))
  (some false)
  ((idx s224 3).bind fun b329 =>
  cond (Q9 .lss (b329.toNat : Int) 128)
  (some false)
  ((idx s224 3).bind fun b332 =>
  cond (Q9 .lss 191 (b332.toNat : Int))
  (some false)
  (cond (Nat.ble 4 s224.length && Nat.ble s224.length s224.length) (Q4 N n ((s224.take s224.length).drop 4)) none))))))))
  (some false)))))
  (some true)
def Xf (N : Nat) (s_0 : List UInt8) : Option (Bool) :=
 Q4 N N s_0
theorem G4 {N} {s_0} {r} (h : Xf N s_0 = some r) : Zx Tryz.prog G1 132 [.str s_0] (.bool r) := by
 refine Q6 Qxw ?_
 unfold Xf at h
 refine lpC (τ := (List UInt8)) (fun s224 => (iS s224 :: a16 (a16 (a16 (a16 (a16 (a16 (a16 (a16 (a16 (a16 (a8 ([]))))))))))) : List AV)) (fun _ => ([] : List AObj)) (fun n0 s224 => Q4 N n0 s224) (s_0) h (fun i => i) ⟨(rE rfl <| rX <| rX <| rX <| rX <| rX <| rX <| rX <| rX <| rX <| rX <| rX <| rX <| rX <| rX <| rX <| rX <| rX <| rX <| rX <| rX <| rX <| rN), (hN), rfl, rfl, (roN)⟩ fun n0 s224 h => ?_
 simp only [Q4] at h
 apply iU h <;> intro h
 ·refine xB h fun b226 h => ?_
  apply iU h <;> intro h
  ·refine kU h fun h => ?_
   apply iU h <;> intro h
   ·refine cP h Z2 p1 fun v231 h => ?_
    apply iU h <;> intro h
    ·refine kU h fun h => ?_
     refine Qh ?_
     apply iU h <;> intro h
     ·refine cD h Z2 p1 fun v236 h => ?_
      refine kU h fun h => ?_
      refine cD h Z2 p1 fun v239 h => ?_
      apply iU h <;> intro h
      ·refine kU h fun h => ?_
       refine lpC (τ := (List UInt8)) (fun s272 => (iS s272 :: a16 (a16 (a16 (a16 (a16 (a16 (a16 (a16 (a16 (a16 (a8 ([]))))))))))) : List AV)) (fun _ => ([] : List AObj)) (fun n1 s272 => Zb N (Q4 N n0) n1 s272) (((((((s224.take s224.length).drop 1).take (((s224.take s224.length).drop 1).length)).drop 8).take (((((s224.take s224.length).drop 1).take (((s224.take s224.length).drop 1).length)).drop 8).length)).drop 16)) h (fun i => i) ⟨(rE rfl <| rX <| rX <| rX <| rX <| rX <| rX <| rX <| rX <| rX <| rX <| rX <| rX <| rX <| rX <| rX <| rX <| rX <| rX <| rX <| rX <| rX <| rN), (hN), rfl, rfl, (roN)⟩ fun n1 s272 h => ?_
       simp only [Zb] at h
       refine Qh ?_
       apply iU h <;> intro h
       ·refine cD h Z2 p1 fun v274 h => ?_
        refine kU h fun h => ?_
        refine cD h Z2 p1 fun v277 h => ?_
        refine kU h fun h => ?_
        refine cD h Z2 p1 fun v280 h => ?_
        refine kU h fun h => ?_
        refine cD h Z2 p1 fun v283 h => ?_
        apply iU h <;> intro h
        ·refine kU h fun h => ?_
         show Exists _
         exact ⟨(n1, ((s272.take s272.length).drop 32)), h, Nat.lt_succ_self _, (fun i => i), ⟨(rE rfl <| rX <| rX <| rX <| rX <| rX <| rX <| rX <| rX <| rX <| rX <| rX <| rX <| rX <| rX <| rX <| rX <| rX <| rX <| rX <| rX <| rX <| rN), (hN), rfl, rfl, (roN)⟩⟩
        ·show Exists _
         exact ⟨(n0, s272), h, Nat.lt_succ_self _, (fun i => i), ⟨(rE rfl <| rX <| rX <| rX <| rX <| rX <| rX <| rX <| rX <| rX <| rX <| rX <| rX <| rX <| rX <| rX <| rX <| rX <| rX <| rX <| rX <| rX <| rN), (hN), rfl, rfl, (roN)⟩⟩
       ·show Exists _
        exact ⟨(n0, s272), h, Nat.lt_succ_self _, (fun i => i), ⟨(rE rfl <| rX <| rX <| rX <| rX <| rX <| rX <| rX <| rX <| rX <| rX <| rX <| rX <| rX <| rX <| rX <| rX <| rX <| rX <| rX <| rX <| rX <| rN), (hN), rfl, rfl, (roN)⟩⟩
      ·show Exists _
       exact ⟨(n0, ((((s224.take s224.length).drop 1).take (((s224.take s224.length).drop 1).length)).drop 8)), h, Nat.lt_succ_self _, (fun i => i), ⟨(rE rfl <| rX <| rX <| rX <| rX <| rX <| rX <| rX <| rX <| rX <| rX <| rX <| rX <| rX <| rX <| rX <| rX <| rX <| rX <| rX <| rX <| rX <| rN), (hN), rfl, rfl, (roN)⟩⟩
     ·show Exists _
      exact ⟨(n0, ((((s224.take s224.length).drop 1).take (((s224.take s224.length).drop 1).length)).drop 8)), h, Nat.lt_succ_self _, (fun i => i), ⟨(rE rfl <| rX <| rX <| rX <| rX <| rX <| rX <| rX <| rX <| rX <| rX <| rX <| rX <| rX <| rX <| rX <| rX <| rX <| rX <| rX <| rX <| rX <| rN), (hN), rfl, rfl, (roN)⟩⟩
    ·show Exists _
     exact ⟨(n0, ((s224.take s224.length).drop 1)), h, Nat.lt_succ_self _, (fun i => i), ⟨(rE rfl <| rX <| rX <| rX <| rX <| rX <| rX <| rX <| rX <| rX <| rX <| rX <| rX <| rX <| rX <| rX <| rX <| rX <| rX <| rX <| rX <| rX <| rN), (hN), rfl, rfl, (roN)⟩⟩
   ·show Exists _
    exact ⟨(n0, ((s224.take s224.length).drop 1)), h, Nat.lt_succ_self _, (fun i => i), ⟨(rE rfl <| rX <| rX <| rX <| rX <| rX <| rX <| rX <| rX <| rX <| rX <| rX <| rX <| rX <| rX <| rX <| rX <| rX <| rX <| rX <| rX <| rX <| rN), (hN), rfl, rfl, (roN)⟩⟩
  ·obtain ⟨y287, hy288, h⟩ := Gt h
   refine Q26 (Qce hy288 Qle) ?_
   refine Qk8 (c := (cI .u8)) (e := 1) (fun _ => rfl) Qo2 hy288 (off := 0) (by decide) (by first | omega | (simp only [Q13, orI, Qtd, Qbw, Q0d, Q1g]; omega)) ?_
   obtain ⟨y289, hy290, h⟩ := Gt h
   refine Q26 (Qce hy290 Qkb) ?_
   refine Qk8 (c := cUU) (e := 2) (fun _ => rfl) Qnj hy290 (off := 0) (by decide) (by first | omega | (simp only [Q13, orI, Qtd, Qbw, Q0d, Q1g]; omega)) ?_
   apply iU h <;> intro h
   ·refine Qh ?_
    apply iU h <;> intro h
    ·cases h; exact (.p _)
    ·refine xB h fun b293 h => ?_
     apply iU h <;> intro h
     ·cases h; exact (.p _)
     ·refine xB h fun b296 h => ?_
      apply iU h <;> intro h
      ·cases h; exact (.p _)
      ·refine kU h fun h => ?_
       show Exists _
       exact ⟨(n0, ((s224.take s224.length).drop 2)), h, Nat.lt_succ_self _, (fun i => i), ⟨(rE rfl <| rX <| rX <| rX <| rX <| rX <| rX <| rX <| rX <| rX <| rX <| rX <| rX <| rX <| rX <| rX <| rX <| rX <| rX <| rX <| rX <| rX <| rN), (hN), rfl, rfl, (roN)⟩⟩
   ·apply iU h <;> intro h
    ·refine Qh ?_
     apply iU h <;> intro h
     ·cases h; exact (.p _)
     ·refine xB h fun b302 h => ?_
      apply iU h <;> intro h
      ·cases h; exact (.p _)
      ·refine xB h fun b305 h => ?_
       apply iU h <;> intro h
       ·cases h; exact (.p _)
       ·refine xB h fun b308 h => ?_
        apply iU h <;> intro h
        ·cases h; exact (.p _)
        ·refine xB h fun b311 h => ?_
         apply iU h <;> intro h
         ·cases h; exact (.p _)
         ·refine kU h fun h => ?_
          show Exists _
          exact ⟨(n0, ((s224.take s224.length).drop 3)), h, Nat.lt_succ_self _, (fun i => i), ⟨(rE rfl <| rX <| rX <| rX <| rX <| rX <| rX <| rX <| rX <| rX <| rX <| rX <| rX <| rX <| rX <| rX <| rX <| rX <| rX <| rX <| rX <| rX <| rN), (hN), rfl, rfl, (roN)⟩⟩
    ·apply iU h <;> intro h
     ·refine Qh ?_
      apply iU h <;> intro h
      ·cases h; exact (.p _)
      ·refine xB h fun b317 h => ?_
       apply iU h <;> intro h
       ·cases h; exact (.p _)
       ·refine xB h fun b320 h => ?_
        apply iU h <;> intro h
        ·cases h; exact (.p _)
        ·refine xB h fun b323 h => ?_
         apply iU h <;> intro h
         ·cases h; exact (.p _)
         ·refine xB h fun b326 h => ?_
          apply iU h <;> intro h
          ·cases h; exact (.p _)
          ·refine xB h fun b329 h => ?_
           apply iU h <;> intro h
           ·cases h; exact (.p _)
           ·refine xB h fun b332 h => ?_
            apply iU h <;> intro h
            ·cases h; exact (.p _)
            ·refine kU h fun h => ?_
             show Exists _
             exact ⟨(n0, ((s224.take s224.length).drop 4)), h, Nat.lt_succ_self _, (fun i => i), ⟨(rE rfl <| rX <| rX <| rX <| rX <| rX <| rX <| rX <| rX <| rX <| rX <| rX <| rX <| rX <| rX <| rX <| rX <| rX <| rX <| rX <| rX <| rX <| rN), (hN), rfl, rfl, (roN)⟩⟩
     ·cases h; exact (.p _)
 ·cases h; exact (.p _)
def Wn (N : Nat) (v : Q0) : Nat → Int → Option (Int)
 | 0, _ => none
 | n + 1, s15 =>
  cond (Q9 .lss s15 (v.Text.length : Int))
  ((idx v.Text s15).bind fun b17 =>
  cond (Q9 .geq (b17.toNat : Int) 128)
  (some 6)
  (Wn N v n (IntKind.wrap .i64 (s15 + 1))))
  (some 0)
def X6 (N : Nat) (v : Q0) : Option (Int) :=
 cond (Q9 .eql v.Kind 20)
 ((Xf N v.Text).bind fun v2 =>
 cond (!v2)
 (some 6)
 (some 0))
 (cond (Q9 .eql v.Kind 21)
 (Wn N v N 0)
 (some 0))
theorem Wp {N} {v} {r} (h : X6 N v = some r) : Zx Tryz.prog G1 113 [.agg (Q0.cells v)] (.int .i64 r) := by
 refine Q6 Qx2 ?_
 unfold X6 at h
 apply iU h <;> intro h
 ·refine cP h G4 p1 fun v2 h => ?_
  apply iU h <;> intro h
  ·cases h; exact (.p _)
  ·cases h; exact (.p _)
 ·apply iU h <;> intro h
  ·refine lpC (τ := Int) (fun s15 => (.any :: .ptr 0 0 :: a8 (a4 (a2 (iI (v.Text.length : Int) :: iI s15 :: a8 ([])))) : List AV)) (fun _ => (.cells (iI v.Kind :: iW v.N' :: iS v.Text :: .p (.slice 4 (Q0.rows v.Items)) :: []) :: [] : List AObj)) (fun n0 s15 => Wn N v n0 s15) (0) h (fun i => i) ⟨(rA <| rE rfl <| rX <| rV <| rW <| rE rfl <| rE rfl <| rX <| rN), (hE rfl <| hN), rfl, rfl, (roE rfl <| roN)⟩ fun n0 s15 h => ?_
   simp only [Wn] at h
   apply iU h <;> intro h
   ·refine xB h fun b17 h => ?_
    apply iU h <;> intro h
    ·cases h; exact (.p _)
    ·show Exists _
     exact ⟨(n0, (IntKind.wrap .i64 (s15 + 1))), h, Nat.lt_succ_self _, (fun i => i), ⟨(rA <| rE rfl <| rX <| rV <| rW <| rE rfl <| rE rfl <| rX <| rN), (hE rfl <| hN), rfl, rfl, (roE rfl <| roN)⟩⟩
   ·cases h; exact (.p _)
  ·cases h; exact (.p _)
def V7 (_N : Nat) (kind : Int) : Option (Int × Bool) :=
 cond (Q9 .eql kind 2)
 (some (1, false))
 (cond (Q9 .eql kind 3)
 (some (8, false))
 (cond (Q9 .eql kind 4)
 (some (16, false))
 (cond (Q9 .eql kind 5)
 (some (32, false))
 (cond (Q9 .eql kind 11)
 (some (32, false))
 (cond (Q9 .eql kind 13)
 (some (32, false))
 (cond (Q9 .eql kind 16)
 (some (32, false))
 (cond (Q9 .eql kind 6)
 (some (64, false))
 (cond (Q9 .eql kind 12)
 (some (64, false))
 (cond (Q9 .eql kind 14)
 (some (64, false))
 (cond (Q9 .eql kind 7)
 (some (8, true))
 (cond (Q9 .eql kind 8)
 (some (16, true))
 (cond (Q9 .eql kind 9)
 (some (32, true))
 (cond (Q9 .eql kind 10)
 (some (64, true))
 (cond (Q9 .eql kind 17)
 (some (64, true))
 (some (0, false))))))))))))))))
theorem Jt {N} {kind} {r} (h : V7 N kind = some r) : Zx Tryz.prog G1 109 [.int .i64 kind] (.tuple [.int .i64 r.1, .bool r.2]) := by
 refine Q6 Qwn ?_
 unfold V7 at h
 apply iU h <;> intro h
 ·obtain rfl := Qb h; exact u2
 ·apply iU h <;> intro h
  ·obtain rfl := Qb h; exact u2
  ·apply iU h <;> intro h
   ·obtain rfl := Qb h; exact u2
   ·refine ifO h (fun hc4 h => ?_) (fun hc4 h => ?_)
    ·refine ifT hc4 ?_
     obtain rfl := Qb h; exact u2
    ·refine ifO h (fun hc5 h => ?_) (fun hc5 h => ?_)
     ·refine ifT hc5 ?_
      obtain rfl := Qb h; exact u2
     ·refine ifO h (fun hc6 h => ?_) (fun hc6 h => ?_)
      ·refine ifT hc6 ?_
       obtain rfl := Qb h; exact u2
      ·apply iU h <;> intro h
       ·obtain rfl := Qb h; exact u2
       ·refine ifO h (fun hc8 h => ?_) (fun hc8 h => ?_)
        ·refine ifT hc8 ?_
         obtain rfl := Qb h; exact u2
        ·refine ifO h (fun hc9 h => ?_) (fun hc9 h => ?_)
         ·refine ifT hc9 ?_
          obtain rfl := Qb h; exact u2
         ·apply iU h <;> intro h
          ·obtain rfl := Qb h; exact u2
          ·apply iU h <;> intro h
           ·obtain rfl := Qb h; exact u2
           ·apply iU h <;> intro h
            ·obtain rfl := Qb h; exact u2
            ·apply iU h <;> intro h
             ·obtain rfl := Qb h; exact u2
             ·refine ifO h (fun hc14 h => ?_) (fun hc14 h => ?_)
              ·refine ifT hc14 ?_
               obtain rfl := Qb h; exact u2
              ·apply iU h <;> intro h
               ·obtain rfl := Qb h; exact u2
               ·obtain rfl := Qb h; exact u2
def Xz (_N : Nat) (n_0 : Int) (bits : Int) (signed : Bool) : Option (Bool) :=
 cond signed
 (cond (decide (0 ≤ (IntKind.wrap .i64 (bits - 1)))) (cond (Q9 .geq (IntKind.wrap .i64 n_0) (Q0d .i64 (-1) (IntKind.wrap .i64 (bits - 1))))
 (some (Q9 .leq (IntKind.wrap .i64 n_0) (IntKind.wrap .i64 (0 - (IntKind.wrap .i64 ((Q0d .i64 (-1) (IntKind.wrap .i64 (bits - 1))) + 1))))))
 (some false)) none)
 (cond (Q9 .eql bits 64)
 (some true)
 (cond (decide (0 ≤ bits)) (some (Q9 .eql (Q1g .u64 n_0 bits) 0)) none))
theorem G0 {N} {n_0} {bits} {signed} {r} (h : Xz N n_0 bits signed = some r) : Zx Tryz.prog G1 110 [.int .u64 n_0, .int .i64 bits, .bool signed] (.bool r) := by
 refine Q6 Qxg ?_
 unfold Xz at h
 apply iU h <;> intro h
 ·refine kU h fun h => ?_
  apply iU h <;> intro h
  ·cases h; exact (.p _)
  ·cases h; exact (.p _)
 ·apply iU h <;> intro h
  ·cases h; exact (.p _)
  ·refine kU h fun h => ?_
   cases h; exact (.p _)
def W2 (_N : Nat) (r_0 : Int) : Option (Bool) :=
 cond (Q9 .leq 0 r_0)
 (cond (Q9 .lss r_0 55296)
 (some true)
 (cond (Q9 .lss 57343 r_0)
 (cond (Q9 .leq r_0 1114111)
 (some true)
 (some false))
 (some false)))
 (cond (Q9 .lss 57343 r_0)
 (cond (Q9 .leq r_0 1114111)
 (some true)
 (some false))
 (some false))
theorem Q0b {N} {r_0} {r} (h : W2 N r_0 = some r) : Zx Tryz.prog G1 131 [.int .i32 r_0] (.bool r) := by
 refine Q6 Qx8 ?_
 unfold W2 at h
 apply iU h <;> intro h
 ·apply iU h <;> intro h
  ·cases h; exact (.p _)
  ·apply iU h <;> intro h
   ·apply iU h <;> intro h
    ·cases h; exact (.p _)
    ·cases h; exact (.p _)
   ·cases h; exact (.p _)
 ·apply iU h <;> intro h
  ·apply iU h <;> intro h
   ·cases h; exact (.p _)
   ·cases h; exact (.p _)
  ·cases h; exact (.p _)
def Wr (N : Nat) (n_0 : Int) : Option (Bool) :=
 cond (Q9 .leq n_0 1114111)
 ((W2 N (IntKind.wrap .i32 n_0)).bind fun v2 =>
 some v2)
 (some false)
theorem Q2g {N} {n_0} {r} (h : Wr N n_0 = some r) : Zx Tryz.prog G1 111 [.int .u64 n_0] (.bool r) := by
 refine Q6 Qxj ?_
 unfold Wr at h
 apply iU h <;> intro h
 ·refine cP h Q0b p1 fun v2 h => ?_
  cases h; exact (.p _)
 ·cases h; exact (.p _)
def Yc (N : Nat) (v : Q0) : Option (Int) :=
 cond (Q9 .lss v.Kind 1)
 (some 8)
 (cond (Q9 .gtr v.Kind 21)
 (some 8)
 ((V7 N v.Kind).bind fun v3 =>
 (Xz N v.N' v3.1 v3.2).bind fun v5 =>
 cond (!v5)
 (some 2)
 (cond (Q9 .eql v.Kind 16)
 ((Wr N v.N').bind fun v9 =>
 cond (!v9)
 (some 2)
 (cond (Q9 .neq ((Q0.rows v.Items).length : Int) 0)
 (some 2)
 ((Wo N v.Kind).bind fun v13 =>
 cond (!v13)
 (cond (Q7t .neq v.Text [])
 (some 2)
 (some 0))
 (cond (Q9 .eql v.Kind 15)
 (cond (Q9 .neq (v.Text.length : Int) 16)
 (some 2)
 (cond (Q9 .gtr (v.Text.length : Int) 1048576)
 (some 4)
 ((X6 N v).bind fun v20 =>
 some v20)))
 (cond (Q9 .eql v.Kind 18)
 (cond (Q9 .neq (v.Text.length : Int) 16)
 (some 2)
 (cond (Q9 .gtr (v.Text.length : Int) 1048576)
 (some 4)
 ((X6 N v).bind fun v25 =>
 some v25)))
 (cond (Q9 .gtr (v.Text.length : Int) 1048576)
 (some 4)
 ((X6 N v).bind fun v28 =>
 some v28)))))))
 (cond (Q9 .neq ((Q0.rows v.Items).length : Int) 0)
 (some 2)
 ((Wo N v.Kind).bind fun v31 =>
 cond (!v31)
 (cond (Q7t .neq v.Text [])
 (some 2)
 (some 0))
 (cond (Q9 .eql v.Kind 15)
 (cond (Q9 .neq (v.Text.length : Int) 16)
 (some 2)
 (cond (Q9 .gtr (v.Text.length : Int) 1048576)
 (some 4)
 ((X6 N v).bind fun v38 =>
 some v38)))
 (cond (Q9 .eql v.Kind 18)
 (cond (Q9 .neq (v.Text.length : Int) 16)
 (some 2)
 (cond (Q9 .gtr (v.Text.length : Int) 1048576)
 (some 4)
 ((X6 N v).bind fun v43 =>
 some v43)))
 (cond (Q9 .gtr (v.Text.length : Int) 1048576)
 (some 4)
 ((X6 N v).bind fun v46 =>
 some v46)))))))))
theorem X7 {N} {v} {r} (h : Yc N v = some r) : Zx Tryz.prog G1 89 [.agg (Q0.cells v)] (.int .i64 r) := by
 refine Q6 k89 ?_
 unfold Yc at h
 apply iU h <;> intro h
 ·cases h; exact (.p _)
 ·apply iU h <;> intro h
  ·cases h; exact (.p _)
  ·refine cP h Jt p1 fun v3 h => ?_
   refine cP h G0 p3 fun v5 h => ?_
   apply iU h <;> intro h
   ·cases h; exact (.p _)
   ·apply iU h <;> intro h
    ·refine cP h Q2g p1 fun v9 h => ?_
     apply iU h <;> intro h
     ·cases h; exact (.p _)
     ·apply iU h <;> intro h
      ·cases h; exact (.p _)
      ·refine cP h Gb p1 fun v13 h => ?_
       apply iU h <;> intro h
       ·apply iU h <;> intro h
        ·cases h; exact (.p _)
        ·cases h; exact (.p _)
       ·apply iU h <;> intro h
        ·apply iU h <;> intro h
         ·cases h; exact (.p _)
         ·apply iU h <;> intro h
          ·cases h; exact (.p _)
          ·refine cP h Wp (.cons q4 .nil) fun v20 h => ?_
           cases h; exact (.p _)
        ·apply iU h <;> intro h
         ·apply iU h <;> intro h
          ·cases h; exact (.p _)
          ·apply iU h <;> intro h
           ·cases h; exact (.p _)
           ·refine cP h Wp (.cons q4 .nil) fun v25 h => ?_
            cases h; exact (.p _)
         ·apply iU h <;> intro h
          ·cases h; exact (.p _)
          ·refine cP h Wp (.cons q4 .nil) fun v28 h => ?_
           cases h; exact (.p _)
    ·apply iU h <;> intro h
     ·cases h; exact (.p _)
     ·refine cP h Gb p1 fun v31 h => ?_
      apply iU h <;> intro h
      ·apply iU h <;> intro h
       ·cases h; exact (.p _)
       ·cases h; exact (.p _)
      ·apply iU h <;> intro h
       ·apply iU h <;> intro h
        ·cases h; exact (.p _)
        ·apply iU h <;> intro h
         ·cases h; exact (.p _)
         ·refine cP h Wp (.cons q4 .nil) fun v38 h => ?_
          cases h; exact (.p _)
       ·apply iU h <;> intro h
        ·apply iU h <;> intro h
         ·cases h; exact (.p _)
         ·apply iU h <;> intro h
          ·cases h; exact (.p _)
          ·refine cP h Wp (.cons q4 .nil) fun v43 h => ?_
           cases h; exact (.p _)
        ·apply iU h <;> intro h
         ·cases h; exact (.p _)
         ·refine cP h Wp (.cons q4 .nil) fun v46 h => ?_
          cases h; exact (.p _)
def Vf (_N : Nat) (v : Q0) : Option (Bool) :=
 cond (Q7t .neq v.Text [])
 (some false)
 (cond (Q9 .eql v.Kind 24)
 (cond (Q9 .geq v.N' 1)
 (some (Q9 .leq v.N' 24))
 (some false))
 (cond (Q9 .neq v.N' 0)
 (some false)
 (cond (Q9 .eql v.Kind 25)
 (some (Q9 .eql ((Q0.rows v.Items).length : Int) 2))
 (cond (Q9 .eql v.Kind 23)
 (some (Q9 .eql ((((Q0.rows v.Items).length : Int) : Int).tmod 2) 0))
 (some true)))))
theorem Q3t {N} {v} {r} (h : Vf N v = some r) : Zx Tryz.prog G1 90 [.agg (Q0.cells v)] (.bool r) := by
 refine Q6 k90 ?_
 unfold Vf at h
 apply iU h <;> intro h
 ·cases h; exact (.p _)
 ·apply iU h <;> intro h
  ·apply iU h <;> intro h
   ·cases h; exact (.p _)
   ·cases h; exact (.p _)
  ·apply iU h <;> intro h
   ·cases h; exact (.p _)
   ·apply iU h <;> intro h
    ·cases h; exact (.p _)
    ·apply iU h <;> intro h
     ·cases h; exact (.p _)
     ·cases h; exact (.p _)
def Zf (_N : Nat) (v : Q0) : Option (Bool) :=
 cond (Q9 .eql v.Kind 11)
 (cond (Q9 .eql (Q13 .u64 (Q1g .u64 v.N' 23) 255) 255)
 (some (Q9 .neq (Q0d .u64 v.N' 41) 0))
 (some false))
 (cond (Q9 .eql v.Kind 12)
 (cond (Q9 .eql (Q13 .u64 (Q1g .u64 v.N' 52) 2047) 2047)
 (some (Q9 .neq (Q0d .u64 v.N' 12) 0))
 (some false))
 (some false))
theorem Jp {N} {v} {r} (h : Zf N v = some r) : Zx Tryz.prog G1 133 [.agg (Q0.cells v)] (.bool r) := by
 refine Q6 Qwe ?_
 unfold Zf at h
 apply iU h <;> intro h
 ·apply iU h <;> intro h
  ·cases h; exact (.p _)
  ·cases h; exact (.p _)
 ·apply iU h <;> intro h
  ·apply iU h <;> intro h
   ·cases h; exact (.p _)
   ·cases h; exact (.p _)
  ·cases h; exact (.p _)
def Xl (rv1 : Q0 → Q0 → Option (Bool)) (N : Nat) (a : Q0) (b : Q0) : Nat → Int → Option (Bool)
 | 0, _ => none
 | n + 1, s28 =>
  cond (Q9 .lss s28 ((Q0.rows a.Items).length : Int))
  ((idx a.Items s28).bind fun y30 =>
  (idx b.Items s28).bind fun y32 =>
  (rv1 y30 y32).bind fun v34 =>
  cond (!v34)
  (some false)
  (Xl rv1 N a b n (IntKind.wrap .i64 (s28 + 1))))
  (some true)
def Xm (rv1 : Q0 → Q0 → Option (Bool)) (N : Nat) (a : Q0) (b : Q0) : Nat → Int → Option (Bool)
 | 0, _ => none
 | n + 1, s54 =>
  cond (Q9 .lss s54 ((Q0.rows a.Items).length : Int))
  ((idx a.Items s54).bind fun y56 =>
  (idx b.Items s54).bind fun y58 =>
  (rv1 y56 y58).bind fun v60 =>
  cond (!v60)
  (some false)
  (Xm rv1 N a b n (IntKind.wrap .i64 (s54 + 1))))
  (some true)
def Ux (rv1 : Q0 → Q0 → Option (Bool)) (N : Nat) (a : Q0) (b : Q0) : Option (Bool) :=
 cond (Q9 .neq a.Kind b.Kind)
 (some false)
 (cond (Q7t .neq a.Text b.Text)
 (some false)
 (cond (Q9 .neq ((Q0.rows a.Items).length : Int) ((Q0.rows b.Items).length : Int))
 (some false)
 (cond (Q9 .neq a.N' b.N')
 ((Zf N a).bind fun v5 =>
 cond v5
 ((Zf N b).bind fun v8 =>
 cond (!v8)
 (some false)
 (Xl rv1 N a b N 0))
 (some false))
 (Xm rv1 N a b N 0))))
theorem Q45 {rv1 : Q0 → Q0 → Option (Bool)} (hv3 : ∀ {a} {b} {r}, rv1 a b = some r → Zx Tryz.prog G1 114 [.agg (Q0.cells a), .agg (Q0.cells b)] (.bool r)) {N} {a} {b} {r} (h : Ux rv1 N a b = some r) : Zx Tryz.prog G1 114 [.agg (Q0.cells a), .agg (Q0.cells b)] (.bool r) := by
 refine Q6 Qww ?_
 unfold Ux at h
 apply iU h <;> intro h
 ·cases h; exact (.p _)
 ·apply iU h <;> intro h
  ·cases h; exact (.p _)
  ·apply iU h <;> intro h
   ·cases h; exact (.p _)
   ·apply iU h <;> intro h
    ·refine cP h Jp (.cons q4 .nil) fun v5 h => ?_
     apply iU h <;> intro h
     ·refine cP h Jp (.cons q4 .nil) fun v8 h => ?_
      apply iU h <;> intro h
      ·cases h; exact (.p _)
      ·refine lpC (τ := Int) (fun s28 => (.any :: .any :: .ptr 0 0 :: .ptr 1 0 :: a16 (a16 (a4 (a2 (.any :: iI ((Q0.rows a.Items).length : Int) :: iI s28 :: a8 (a4 (a2 (.any :: []))))))) : List AV)) (fun _ => (.cells (iI a.Kind :: iW a.N' :: iS a.Text :: .p (.slice 4 (Q0.rows a.Items)) :: []) :: .cells (iI b.Kind :: iW b.N' :: iS b.Text :: .p (.slice 4 (Q0.rows b.Items)) :: []) :: [] : List AObj)) (fun n0 s28 => Xl rv1 N a b n0 s28) (0) h (fun i => i) ⟨(rW <| rE rfl <| rE rfl <| rX <| rX <| rX <| rX <| rV <| rW <| rA <| rE rfl <| rE rfl <| rX <| rV <| rW <| rA <| rN), (hE rfl <| hE rfl <| hN), rfl, rfl, (roE rfl <| roE rfl <| roN)⟩ fun n0 s28 h => ?_
       simp only [Xl] at h
       apply iU h <;> intro h
       ·refine Qh ?_
        refine Q0.xR h fun y30 h => ?_
        refine Q0.xR h fun y32 h => ?_
        refine cD h hv3 (.cons q4 (.cons q4 .nil)) fun v34 h => ?_
        apply iU h <;> intro h
        ·cases h; exact (.p _)
        ·show Exists _
         exact ⟨(n0, (IntKind.wrap .i64 (s28 + 1))), h, Nat.lt_succ_self _, (fun i => i), ⟨(rW <| rE rfl <| rE rfl <| rX <| rX <| rX <| rX <| rV <| rW <| rA <| rE rfl <| rE rfl <| rX <| rV <| rW <| rA <| rN), (hE rfl <| hE rfl <| hN), rfl, rfl, (roE rfl <| roE rfl <| roN)⟩⟩
       ·cases h; exact (.p _)
     ·cases h; exact (.p _)
    ·refine lpC (τ := Int) (fun s54 => (.any :: .any :: .ptr 0 0 :: .ptr 1 0 :: a16 (a16 (a4 (a2 (.any :: iI ((Q0.rows a.Items).length : Int) :: iI s54 :: a8 (a4 (a2 (.any :: []))))))) : List AV)) (fun _ => (.cells (iI a.Kind :: iW a.N' :: iS a.Text :: .p (.slice 4 (Q0.rows a.Items)) :: []) :: .cells (iI b.Kind :: iW b.N' :: iS b.Text :: .p (.slice 4 (Q0.rows b.Items)) :: []) :: [] : List AObj)) (fun n1 s54 => Xm rv1 N a b n1 s54) (0) h (fun i => i) ⟨(rW <| rE rfl <| rE rfl <| rX <| rX <| rX <| rX <| rV <| rW <| rA <| rE rfl <| rE rfl <| rX <| rV <| rW <| rA <| rN), (hE rfl <| hE rfl <| hN), rfl, rfl, (roE rfl <| roE rfl <| roN)⟩ fun n1 s54 h => ?_
     simp only [Xm] at h
     apply iU h <;> intro h
     ·refine Qh ?_
      refine Q0.xR h fun y56 h => ?_
      refine Q0.xR h fun y58 h => ?_
      refine cD h hv3 (.cons q4 (.cons q4 .nil)) fun v60 h => ?_
      apply iU h <;> intro h
      ·cases h; exact (.p _)
      ·show Exists _
       exact ⟨(n1, (IntKind.wrap .i64 (s54 + 1))), h, Nat.lt_succ_self _, (fun i => i), ⟨(rW <| rE rfl <| rE rfl <| rX <| rX <| rX <| rX <| rV <| rW <| rA <| rE rfl <| rE rfl <| rX <| rV <| rW <| rA <| rN), (hE rfl <| hE rfl <| hN), rfl, rfl, (roE rfl <| roE rfl <| roN)⟩⟩
     ·cases h; exact (.p _)
def Wc : Nat → Q0 → Q0 → Option (Bool)
 | 0 => fun _ _ => none
 | N + 1 => Ux (Wc N) N
theorem Q49 {N} {a} {b} {r} (h : Wc N a b = some r) : Zx Tryz.prog G1 114 [.agg (Q0.cells a), .agg (Q0.cells b)] (.bool r) := by
 induction N generalizing a b r with
 | zero => simp [Wc] at h
 | succ N ih => exact Q45 (fun h => ih h) h
def W6 (N : Nat) (k0 : Int → Option (Int)) (v : Q0) (i56 : Int) : Nat → Int → Option (Int)
 | 0, _ => none
 | n + 1, k75 =>
  cond (Q9 .lss k75 i56)
  ((idx v.Items i56).bind fun y77 =>
  (idx v.Items k75).bind fun y79 =>
  (Wc N y77 y79).bind fun v81 =>
  cond v81
  (some 16)
  (W6 N k0 v i56 n (IntKind.wrap .i64 (k75 + 2))))
  (k0 (IntKind.wrap .i64 (i56 + 2)))
def Ym (N : Nat) (v : Q0) : Nat → Int → Option (Int)
 | 0, _ => none
 | n + 1, i56 =>
  cond (Q9 .lss i56 ((Q0.rows v.Items).length : Int))
  (W6 N (Ym N v n) v i56 N 0)
  (some 0)
def X8 (N : Nat) (v : Q0) : Option (Int) :=
 cond (Q9 .neq v.Kind 23)
 (some 0)
 (Ym N v N 2)
theorem V5 {N} {v} {r} (h : X8 N v = some r) : Zx Tryz.prog G1 91 [.agg (Q0.cells v)] (.int .i64 r) := by
 refine Q6 k91 ?_
 unfold X8 at h
 apply iU h <;> intro h
 ·cases h; exact (.p _)
 ·refine lpC (τ := Int) (fun i56 => (.any :: .ptr 0 0 :: .any :: iI i56 :: a16 (a8 (a2 (.any :: []))) : List AV)) (fun _ => (.cells (iI v.Kind :: iW v.N' :: iS v.Text :: .p (.slice 4 (Q0.rows v.Items)) :: []) :: [] : List AObj)) (fun n0 i56 => Ym N v n0 i56) (2) h (fun i => i) ⟨(rA <| rE rfl <| rA <| rE rfl <| rX <| rX <| rX <| rW <| rA <| rN), (hE rfl <| hN), rfl, rfl, (roE rfl <| roN)⟩ fun n0 i56 h => ?_
  simp only [Ym] at h
  apply iU h <;> intro h
  ·refine lpC (τ := Int) (fun k75 => (.any :: .ptr 0 0 :: .any :: iI i56 :: iI k75 :: a16 (a8 (a2 ([]))) : List AV)) (fun _ => (.cells (iI v.Kind :: iW v.N' :: iS v.Text :: .p (.slice 4 (Q0.rows v.Items)) :: []) :: [] : List AObj)) (fun n1 k75 => W6 N (Ym N v n0) v i56 n1 k75) (0) h (fun i => i) ⟨(rA <| rE rfl <| rA <| rE rfl <| rE rfl <| rX <| rX <| rX <| rW <| rN), (hE rfl <| hN), rfl, rfl, (roE rfl <| roN)⟩ fun n1 k75 h => ?_
   simp only [W6] at h
   apply iU h <;> intro h
   ·refine Qh ?_
    refine Q0.xR h fun y77 h => ?_
    refine Q0.xR h fun y79 h => ?_
    refine cD h Q49 (.cons q4 (.cons q4 .nil)) fun v81 h => ?_
    apply iU h <;> intro h
    ·cases h; exact (.p _)
    ·show Exists _
     exact ⟨(n1, (IntKind.wrap .i64 (k75 + 2))), h, Nat.lt_succ_self _, (fun i => i), ⟨(rA <| rE rfl <| rA <| rE rfl <| rE rfl <| rX <| rX <| rX <| rW <| rN), (hE rfl <| hN), rfl, rfl, (roE rfl <| roN)⟩⟩
   ·show Exists _
    exact ⟨(n0, (IntKind.wrap .i64 (i56 + 2))), h, Nat.lt_succ_self _, (fun i => i), ⟨(rA <| rE rfl <| rA <| rE rfl <| rX <| rX <| rX <| rW <| rA <| rN), (hE rfl <| hN), rfl, rfl, (roE rfl <| roN)⟩⟩
  ·cases h; exact (.p _)
def Yb (rw1 : Q0 → Int → Option (Int)) (N : Nat) (v : Q0) (most : Int) : Nat → Int → Option (Int)
 | 0, _ => none
 | n + 1, s34 =>
  cond (Q9 .lss s34 ((Q0.rows v.Items).length : Int))
  ((idx v.Items s34).bind fun y36 =>
  cond (Q9 .eql v.Kind 24)
  (cond (Q9 .neq (IntKind.wrap .u64 y36.Kind) v.N')
  (some 8)
  ((rw1 y36 (IntKind.wrap .i64 (most - 1))).bind fun v40 =>
  cond (Q9 .neq v40 0)
  (some v40)
  (Yb rw1 N v most n (IntKind.wrap .i64 (s34 + 1)))))
  ((rw1 y36 (IntKind.wrap .i64 (most - 1))).bind fun v43 =>
  cond (Q9 .neq v43 0)
  (some v43)
  (Yb rw1 N v most n (IntKind.wrap .i64 (s34 + 1)))))
  ((X8 N v).bind fun v46 =>
  some v46)
def U5 (rw1 : Q0 → Int → Option (Int)) (N : Nat) (v : Q0) (most : Int) : Option (Int) :=
 cond (Q9 .lss v.Kind 1)
 (some 8)
 (cond (Q9 .gtr v.Kind 25)
 (some 8)
 (cond (Q9 .leq v.Kind 21)
 ((Yc N v).bind fun v4 =>
 some v4)
 (cond (Q9 .eql most 0)
 (some 14)
 ((Vf N v).bind fun v7 =>
 cond (!v7)
 (some 2)
 (cond (Q9 .gtr ((Q0.rows v.Items).length : Int) 1000)
 (some 4)
 (Yb rw1 N v most N 0))))))
theorem Q2x {rw1 : Q0 → Int → Option (Int)} (hw3 : ∀ {v} {most} {r}, rw1 v most = some r → Qj4 Tryz.prog G1 88 [.agg (Q0.cells v), .int .i64 most] (.int .i64 r)) {N} {v} {most} {r} (h : U5 rw1 N v most = some r) : Qj4 Tryz.prog G1 88 [.agg (Q0.cells v), .int .i64 most] (.int .i64 r) := by
 refine Qjg k88 ?_
 unfold U5 at h
 apply iU h <;> intro h
 ·obtain rfl := Qb h; exact ⟨_, rfl, (.p _)⟩
 ·apply iU h <;> intro h
  ·obtain rfl := Qb h; exact ⟨_, rfl, (.p _)⟩
  ·apply iU h <;> intro h
   ·refine cP h X7 (.cons q4 .nil) fun v4 h => ?_
    obtain rfl := Qb h; exact ⟨_, rfl, (.p _)⟩
   ·apply iU h <;> intro h
    ·obtain rfl := Qb h; exact ⟨_, rfl, (.p _)⟩
    ·refine cP h Q3t (.cons q4 .nil) fun v7 h => ?_
     apply iU h <;> intro h
     ·obtain rfl := Qb h; exact ⟨_, rfl, (.p _)⟩
     ·apply iU h <;> intro h
      ·obtain rfl := Qb h; exact ⟨_, rfl, (.p _)⟩
      ·refine lpC (τ := Int) (fun s34 => (.any :: iI most :: .ptr 0 0 :: .ptr 1 0 :: a16 (a16 (.any :: .p (.slice 4 (Q0.rows v.Items)) :: iI ((Q0.rows v.Items).length : Int) :: iI s34 :: a16 (a8 (.any :: [])))) : List AV)) (fun _ => (.cells (.func (.func 88) [] [.ptr 0 0] :: []) :: .cells (iI v.Kind :: iW v.N' :: iS v.Text :: .p (.slice 4 (Q0.rows v.Items)) :: []) :: [] : List AObj)) (fun n0 s34 => Yb rw1 N v most n0 s34) (0) h (fun i => i) ⟨(rA <| rE rfl <| rE rfl <| rE rfl <| rX <| rX <| rX <| rX <| rA <| rE rfl <| rE rfl <| rE rfl <| rX <| rX <| rX <| rA <| rN), (hE rfl <| hE rfl <| hN), rfl, rfl, (roE rfl <| roE rfl <| roN)⟩ fun n0 s34 h => ?_
       simp only [Yb] at h
       apply iU h <;> intro h
       ·refine Q0.xR h fun y36 h => ?_
        apply iU h <;> intro h
        ·apply iU h <;> intro h
         ·obtain rfl := Qb h; exact ⟨_, rfl, (.p _)⟩
         ·obtain ⟨v40, hv41, h⟩ := Gt h
          refine Q93 (hw3 hv41) (.cons q4 p1) rfl rfl ?_
          apply iU h <;> intro h
          ·obtain rfl := Qb h; exact ⟨_, rfl, (.p _)⟩
          ·show Exists _
           exact ⟨(n0, (IntKind.wrap .i64 (s34 + 1))), h, Nat.lt_succ_self _, (fun i => i), ⟨(rA <| rE rfl <| rE rfl <| rE rfl <| rX <| rX <| rX <| rX <| rA <| rE rfl <| rE rfl <| rE rfl <| rX <| rX <| rX <| rA <| rN), (hE rfl <| hE rfl <| hN), rfl, rfl, (roE rfl <| roE rfl <| roN)⟩⟩
        ·obtain ⟨v43, hv44, h⟩ := Gt h
         refine Q93 (hw3 hv44) (.cons q4 p1) rfl rfl ?_
         apply iU h <;> intro h
         ·obtain rfl := Qb h; exact ⟨_, rfl, (.p _)⟩
         ·show Exists _
          exact ⟨(n0, (IntKind.wrap .i64 (s34 + 1))), h, Nat.lt_succ_self _, (fun i => i), ⟨(rA <| rE rfl <| rE rfl <| rE rfl <| rX <| rX <| rX <| rX <| rA <| rE rfl <| rE rfl <| rE rfl <| rX <| rX <| rX <| rA <| rN), (hE rfl <| hE rfl <| hN), rfl, rfl, (roE rfl <| roE rfl <| roN)⟩⟩
       ·refine cP h V5 (.cons q4 .nil) fun v46 h => ?_
        obtain rfl := Qb h; exact ⟨_, rfl, (.p _)⟩
def X9 : Nat → Q0 → Int → Option (Int)
 | 0 => fun _ _ => none
 | N + 1 => U5 (X9 N) N
theorem Q32 {N} {v} {most} {r} (h : X9 N v most = some r) : Qj4 Tryz.prog G1 88 [.agg (Q0.cells v), .int .i64 most] (.int .i64 r) := by
 induction N generalizing v most r with
 | zero => simp [X9] at h
 | succ N ih => exact Q2x (fun h => ih h) h
def Yi (_N : Nat) (most : Int) : Option (Bool) :=
 cond (Q9 .geq most 0)
 (some (Q9 .leq most 32))
 (some false)
theorem Vr {N} {most} {r} (h : Yi N most = some r) : Zx Tryz.prog G1 87 [.int .i64 most] (.bool r) := by
 refine Q6 k87 ?_
 unfold Yi at h
 apply iU h <;> intro h
 ·cases h; exact (.p _)
 ·cases h; exact (.p _)
def We (N : Nat) (v : Q0) (most : Int) : Option (Int) :=
 (Yi N most).bind fun v1 =>
 cond (!v1)
 (some 2)
 ((X9 N v most).bind fun v4 =>
 some v4)
theorem J0 {N} {v} {most} {r} (h : We N v most = some r) : Zx Tryz.prog G1 61 [.agg (Q0.cells v), .int .i64 most] (.int .i64 r) := by
 refine Q6 k61 ?_
 unfold We at h
 refine cP h Vr p1 fun v1 h => ?_
 apply iU h <;> intro h
 ·cases h; exact (.p _)
 ·obtain ⟨v4, hv5, h⟩ := Gt h
  refine Q93 (Q32 hv5) (.cons q4 p1) rfl rfl ?_
  cases h; exact (.p _)
def Uu (N : Nat) (c : X5) (v : Q0) : Option (Bool) :=
 cond (Q9 .eql c.Code 65)
 (some (Q9 .eql v.N' 1))
 (cond c.Sized
 (cond (Q9 .eql c.Width 4)
 (some true)
 (some (Q9 .leq (v.Text.length : Int) 255)))
 (cond (Q9 .eql c.Width 0)
 (some (Q9 .eql v.N' 0))
 (cond (Q9 .eql c.Width 1)
 ((V7 N c.Kind).bind fun v6 =>
 (Xz N v.N' 8 v6.2).bind fun v8 =>
 some v8)
 (some true))))
theorem Q6k {N} {c} {v} {r} (h : Uu N c v = some r) : Zx Tryz.prog G1 155 [.agg (X5.cells c), .agg (Q0.cells v)] (.bool r) := by
 refine Q6 Qws ?_
 unfold Uu at h
 apply iU h <;> intro h
 ·cases h; exact (.p _)
 ·apply iU h <;> intro h
  ·apply iU h <;> intro h
   ·cases h; exact (.p _)
   ·cases h; exact (.p _)
  ·apply iU h <;> intro h
   ·cases h; exact (.p _)
   ·apply iU h <;> intro h
    ·refine cP h Jt p1 fun v6 h => ?_
     refine cP h G0 p3 fun v8 h => ?_
     cases h; exact (.p _)
    ·cases h; exact (.p _)
def U0 (N : Nat) (code : Int) (v : Q0) : Option (Bool) :=
 (Qy N code).bind fun v1 =>
 cond v1.2
 (cond (Q9 .eql v1.1.Kind v.Kind)
 ((Yc N v).bind fun v5 =>
 cond (Q9 .eql v5 0)
 ((Uu N v1.1 v).bind fun v8 =>
 some v8)
 (some false))
 (some false))
 (some false)
theorem Q17 {N} {code} {v} {r} (h : U0 N code v = some r) : Zx Tryz.prog G1 134 [.int .i64 code, .agg (Q0.cells v)] (.bool r) := by
 refine Q6 Qy2 ?_
 unfold U0 at h
 refine cP h Xb p1 fun v1 h => ?_
 apply iU h <;> intro h
 ·apply iU h <;> intro h
  ·refine cP h X7 (.cons q4 .nil) fun v5 h => ?_
   apply iU h <;> intro h
   ·refine cP h Q6k (.cons (Frz.agg' p5) (.cons q4 .nil)) fun v8 h => ?_
    cases h; exact (.p _)
   ·cases h; exact (.p _)
  ·cases h; exact (.p _)
 ·cases h; exact (.p _)
def Zl (N : Nat) (f : Q1) (code : Int) : Option (Bool) :=
 (Qy N code).bind fun v1 =>
 cond (!v1.1.Items)
 ((U0 N code f.v).bind fun v4 =>
 some v4)
 (cond (Q9 .eql v1.1.Kind 25)
 (some true)
 (cond (!v1.1.Sized)
 (some (Q9 .eql ((Q1.rows f.kids).length : Int) 0))
 (cond (Q9 .eql v1.1.Width 4)
 (some true)
 (cond (Q9 .leq (IntKind.wrap .i64 (f.inner + 1)) 255)
 (some (Q9 .leq ((Q1.rows f.kids).length : Int) 255))
 (some false)))))
theorem Q1y {N} {f} {code} {r} (h : Zl N f code = some r) : Zx Tryz.prog G1 118 [.agg (Q1.cells f), .int .i64 code] (.bool r) := by
 refine Q6 Qwr ?_
 unfold Zl at h
 refine cP h Xb p1 fun v1 h => ?_
 apply iU h <;> intro h
 ·refine cP h Q17 (.cons (.p _) (.cons q4 .nil)) fun v4 h => ?_
  cases h; exact (.p _)
 ·apply iU h <;> intro h
  ·cases h; exact (.p _)
  ·apply iU h <;> intro h
   ·cases h; exact (.p _)
   ·apply iU h <;> intro h
    ·cases h; exact (.p _)
    ·apply iU h <;> intro h
     ·cases h; exact (.p _)
     ·cases h; exact (.p _)
def Yw (N : Nat) (k0 : Int → Option (Int)) (l : List Q1) (s54 : Int) (y56 : Int) : Nat → Bool → Int → Option (Int)
 | 0, _, _ => none
 | n + 1, all71, s72 =>
  cond (Q9 .lss s72 ((Q1.rows l).length : Int))
  ((idx l s72).bind fun y74 =>
  cond all71
  ((Zl N y74 y56).bind fun v77 =>
  Yw N k0 l s54 y56 n v77 (IntKind.wrap .i64 (s72 + 1)))
  (Yw N k0 l s54 y56 n false (IntKind.wrap .i64 (s72 + 1))))
  (cond all71
  (some y56)
  (k0 (IntKind.wrap .i64 (s54 + 1))))
def Y9 (N : Nat) (l : List Q1) (v1 : List Int) : Nat → Int → Option (Int)
 | 0, _ => none
 | n + 1, s54 =>
  cond (Q9 .lss s54 ((G2 (cI .i64) v1).length : Int))
  ((idx v1 s54).bind fun y56 =>
  Yw N (Y9 N l v1 n) l s54 y56 N true 0)
  (some 0)
def Wa (N : Nat) (kind : Int) (l : List Q1) : Option (Int) :=
 (Gq N kind).bind fun v1 =>
 Y9 N l v1 N 0
theorem Q01 {N} {kind} {l} {r} (h : Wa N kind l = some r) : Zx Tryz.prog G1 96 [.int .i64 kind, .slice 7 (Q1.rows l)] (.int .i64 r) := by
 refine Q6 k96 ?_
 unfold Wa at h
 refine cP h Q4v p1 fun v1 h => ?_
 refine lpC (τ := Int) (fun s54 => (.any :: .p (.slice 7 (Q1.rows l)) :: a8 (.any :: .p (.slice 1 (G2 (cI .i64) v1)) :: .p (.int .i64 ((G2 (cI .i64) v1).length : Int)) :: iI s54 :: a16 (a2 (.any :: []))) : List AV)) (fun _ => ([] : List AObj)) (fun n0 s54 => Y9 N l v1 n0 s54) (0) h (fun i => i) ⟨(rA <| rE rfl <| rX <| rA <| rE rfl <| rE rfl <| rE rfl <| rX <| rX <| rW <| rA <| rN), (hN), rfl, rfl, (roN)⟩ fun n0 s54 h => ?_
 simp only [Y9] at h
 apply iU h <;> intro h
 ·refine xR h fun y56 h => ?_
  refine lpC (τ := Bool × Int) (fun ⟨all71, s72⟩ => (.any :: .p (.slice 7 (Q1.rows l)) :: a4 (iI y56 :: .p (.bool all71) :: a2 (.any :: .p (.slice 1 (G2 (cI .i64) v1)) :: .p (.int .i64 ((G2 (cI .i64) v1).length : Int)) :: iI s54 :: a2 (.any :: .p (.slice 7 (Q1.rows l)) :: iI ((Q1.rows l).length : Int) :: iI s72 :: a8 (a4 (.any :: []))))) : List AV)) (fun ⟨_, _⟩ => ([] : List AObj)) (fun n1 ⟨all71, s72⟩ => Yw N (Y9 N l v1 n0) l s54 y56 n1 all71 s72) (true, 0) h (fun i => i) ⟨(rA <| rE rfl <| rV <| rE rfl <| rE rfl <| rW <| rA <| rE rfl <| rE rfl <| rE rfl <| rW <| rA <| rE rfl <| rE rfl <| rE rfl <| rX <| rV <| rA <| rN), (hN), rfl, rfl, (roN)⟩ fun n1 ⟨all71, s72⟩ h => ?_
  simp only [Yw] at h
  apply iU h <;> intro h
  ·refine Q1.xR h fun y74 h => ?_
   apply iU h <;> intro h
   ·refine cP h Q1y (.cons (Frz.agg' (.cons (.p _) (.cons (.p _) p5))) p1) fun v77 h => ?_
    show Exists _
    exact ⟨(n1, v77, (IntKind.wrap .i64 (s72 + 1))), h, Nat.lt_succ_self _, (fun i => i), ⟨(rA <| rE rfl <| rV <| rE rfl <| rE rfl <| rW <| rA <| rE rfl <| rE rfl <| rE rfl <| rW <| rA <| rE rfl <| rE rfl <| rE rfl <| rX <| rV <| rA <| rN), (hN), rfl, rfl, (roN)⟩⟩
   ·show Exists _
    exact ⟨(n1, false, (IntKind.wrap .i64 (s72 + 1))), h, Nat.lt_succ_self _, (fun i => i), ⟨(rA <| rE rfl <| rV <| rE rfl <| rE rfl <| rW <| rA <| rE rfl <| rE rfl <| rE rfl <| rW <| rA <| rE rfl <| rE rfl <| rE rfl <| rX <| rV <| rA <| rN), (hN), rfl, rfl, (roN)⟩⟩
  ·apply iU h <;> intro h
   ·cases h; exact (.p _)
   ·show Exists _
    exact ⟨(n0, (IntKind.wrap .i64 (s54 + 1))), h, Nat.lt_succ_self _, (fun i => i), ⟨(rA <| rE rfl <| rX <| rA <| rE rfl <| rE rfl <| rE rfl <| rX <| rX <| rW <| rA <| rN), (hN), rfl, rfl, (roN)⟩⟩
 ·cases h; exact (.p _)
def Yj (N : Nat) (f : Q1) : Option (Int) :=
 (Wa N f.v.Kind [f]).bind fun v1 =>
 some v1
theorem Vs {N} {f} {r} (h : Yj N f = some r) : Zx Tryz.prog G1 75 [.agg (Q1.cells f)] (.int .i64 r) := by
 refine Q6 k75 ?_
 unfold Yj at h
 refine cK h Q01 (.cons (.p _) (.cons (Q1.frz_own (l := [f]) rfl trivial (by simp)) .nil)) fun v1 h => ?_
 cases h; exact (.p _)
def Yz (_N : Nat) (b : Qp) (s_1 : List UInt8) : Option ((Unit) × Qp) :=
 cond (Nat.beq s_1.length 0)
 (some ((), b))
 (cond (Nat.ble ((b.b.length + s_1.length + 4096) * 1) 17592186044416) (some ((), (⟨(b.b ++ (s_1.map fun b => (b.toNat : Int)))⟩ : Qp))) none)
theorem J4 {N} {b} {s_1} {r} (h : Yz N b s_1 = some r) : GC Tryz.prog G1 115 (.ptr 0 0 :: .p (.str s_1) :: []) (.cells (.slice 1 1 0 b.b.length :: []) :: .cells (Yk (cI .u8) b.b) :: []) (.tuple []) (.cells (.slice 1 2 0 r.2.b.length :: []) :: .dead :: .cells (Yk (cI .u8) r.2.b) :: []) := by
 refine Q0p Qxd (Nat.le_of_ble_eq_true rfl) ?_
 unfold Yz at h
 refine Q7c (b := s_1) ?_
 apply iU h <;> intro h
 ·obtain rfl := Qb h
  show Exists _
  exact ⟨(rho [0, 1, 1]), ⟨(rE rfl <| rN), (hE rfl <| hD <| hO rfl <| hN), rfl, rfl, (roE rfl <| roE rfl <| roE (Q7 _ _ _) <| roN)⟩⟩
 ·obtain ⟨hk2, h⟩ := Q31 h
  refine Q26 (Xo (c := (cI .u8)) (e := 1) (l := b.b) (fun _ => rfl) (by simp) hk2) ?_
  refine Vh (c := (cI .u8)) (l := b.b) (s_1.map fun b => (b.toNat : Int)) rfl ?_
  obtain rfl := Qb h
  show Exists _
  exact ⟨(rho [0, 1, 2]), ⟨(rE rfl <| rN), (hC rfl (rL (by simp) rfl <| rN) <| hD <| hO rfl <| hN), rfl, rfl, (roE rfl <| roE rfl <| roE (Q7 _ _ _) <| roN)⟩⟩
def V6 (N : Nat) (n_0 : Int) (size : Int) : Nat → Int → (List Int) → Option (List UInt8)
 | 0, _, _ => none
 | n + 1, s14, l15 =>
  cond (Q9 .lss s14 (ifB (decide (16 < size)) 16 size))
  (cond (Q9 .lss s14 8)
  (cond (decide (0 ≤ (IntKind.wrap .u64 (IntKind.wrap .i64 (8 * s14))))) ((idx (l15 : List Int) (IntKind.wrap .i64 ((IntKind.wrap .i64 ((ifB (decide (16 < size)) 16 size) - 1)) - s14))).bind fun y19 =>
  V6 N n_0 size n (IntKind.wrap .i64 (s14 + 1)) ((l15 : List Int).set (Int.toNat (IntKind.wrap .i64 ((IntKind.wrap .i64 ((ifB (decide (16 < size)) 16 size) - 1)) - s14))) (IntKind.wrap .u8 (Q1g .u64 n_0 (IntKind.wrap .u64 (IntKind.wrap .i64 (8 * s14))))))) none)
  (V6 N n_0 size n (IntKind.wrap .i64 (s14 + 1)) l15))
  (some (l15.map fun n => UInt8.ofNat n.toNat))
def Wb (N : Nat) (n_0 : Int) (size : Int) : Option (List UInt8) :=
 cond (Q9 .leq size 0)
 (some [])
 (cond (decide (0 ≤ (ifB (decide (16 < size)) 16 size)) && decide ((ifB (decide (16 < size)) 16 size) ≤ (ifB (decide (16 < size)) 16 size)) && decide ((ifB (decide (16 < size)) 16 size) * 1 ≤ 1099511627776)) (V6 N n_0 size N 0 (List.replicate ((ifB (decide (16 < size)) 16 size) : Int).toNat (0 : Int))) none)
theorem Wm {N} {n_0} {size} {r} (h : Wb N n_0 size = some r) : Zx Tryz.prog G1 102 [.int .u64 n_0, .int .i64 size] (.str r) := by
 refine Q6 Qw1 ?_
 unfold Wb at h
 apply iU h <;> intro h
 ·cases h; exact (.p _)
 ·refine kU h fun h => ?_
  refine Qu7 (c := (cI .u8)) (0 : Int) rfl ?_
  refine lpC (τ := Int × (List Int)) (fun ⟨s14, l15⟩ => (iW n_0 :: .p (.int .i64 (ifB (decide (16 < size)) 16 size)) :: a2 (.any :: .slice 1 1 0 l15.length :: a4 (a2 (.any :: .p (.int .i64 (ifB (decide (16 < size)) 16 size)) :: iI s14 :: a16 (a2 (.any :: []))))) : List AV)) (fun ⟨_, l15⟩ => (.dead :: .cells (Yk (cI .u8) l15) :: [] : List AObj)) (fun n0 ⟨s14, l15⟩ => V6 N n_0 size n0 s14 l15) (0, (List.replicate ((ifB (decide (16 < size)) 16 size) : Int).toNat (0 : Int))) h (rho [0, 0]) ⟨(rE rfl <| rE rfl <| rW <| rA <| rL (by simp) rfl <| rV <| rW <| rA <| rE rfl <| rE rfl <| rX <| rX <| rW <| rA <| rN), (hD <| hO rfl <| hN), rfl, rfl, (roE rfl <| roE (Q7 _ _ _) <| roN)⟩ fun n0 ⟨s14, l15⟩ h => ?_
  simp only [V6] at h
  apply iU h <;> intro h
  ·apply iU h <;> intro h
   ·refine kU h fun h => ?_
    obtain ⟨y19, hy20, h⟩ := Gt h
    refine Q26 (Qce hy20 (by simp)) ?_
    refine Q26 (Qe7 (c := (cI .u8)) (e := 1) (fun _ => rfl) hy20 (off := 0) (by omega) rfl (by decide)) ?_
    refine Qdn (c := (cI .u8)) (e := 1) (fun _ => rfl) hy20 (IntKind.wrap .u8 (Q1g .u64 n_0 (IntKind.wrap .u64 (IntKind.wrap .i64 (8 * s14))))) (off := 0) (by first | omega | (simp only [Q13, orI, Qtd, Qbw, Q0d, Q1g]; omega)) rfl (by simp) ?_
    show Exists _
    exact ⟨(n0, (IntKind.wrap .i64 (s14 + 1)), ((l15 : List Int).set (Int.toNat (IntKind.wrap .i64 ((IntKind.wrap .i64 ((ifB (decide (16 < size)) 16 size) - 1)) - s14))) (IntKind.wrap .u8 (Q1g .u64 n_0 (IntKind.wrap .u64 (IntKind.wrap .i64 (8 * s14))))))), h, Nat.lt_succ_self _, (fun i => i), ⟨(rE rfl <| rE rfl <| rW <| rA <| rL (by simp) rfl <| rV <| rW <| rA <| rE rfl <| rE rfl <| rX <| rX <| rW <| rA <| rN), (hD <| hO rfl <| hN), rfl, rfl, (roE rfl <| roE (Q7 _ _ _) <| roN)⟩⟩
   ·show Exists _
    exact ⟨(n0, (IntKind.wrap .i64 (s14 + 1)), l15), h, Nat.lt_succ_self _, (fun i => i), ⟨(rE rfl <| rE rfl <| rW <| rA <| rE rfl <| rV <| rW <| rA <| rE rfl <| rE rfl <| rX <| rX <| rW <| rA <| rN), (hD <| hO rfl <| hN), rfl, rfl, (roE rfl <| roE (Q7 _ _ _) <| roN)⟩⟩
  ·refine Qlx (l := l15) (by simp) ?_
   cases h; exact (.p _)
def Z0 (N : Nat) (b : Qp) (n_1 : Int) (width : Int) : Option ((Unit) × Qp) :=
 (Wb N (IntKind.wrap .u64 n_1) width).bind fun v1 =>
 (Yz N b v1).bind fun v3 =>
 some ((), v3.2)
theorem Ya {N} {b} {n_1} {width} {r} (h : Z0 N b n_1 width = some r) : GC Tryz.prog G1 92 (.ptr 0 0 :: .p (.int .i64 n_1) :: .p (.int .i64 width) :: []) (.cells (.slice 1 1 0 b.b.length :: []) :: .cells (Yk (cI .u8) b.b) :: []) (.tuple []) (.cells (.slice 1 2 0 r.2.b.length :: []) :: .dead :: .cells (Yk (cI .u8) r.2.b) :: []) := by
 refine Q0p k92 (Nat.le_of_ble_eq_true rfl) ?_
 unfold Z0 at h
 refine cP h Wm p2 fun v1 h => ?_
 refine cG h J4 fun v3 h => ?_
 refine ⟨rho [0, 1], (.cells (.slice 1 2 0 v3.2.b.length :: []) :: .dead :: .cells (Yk (cI .u8) v3.2.b) :: []), .tuple [], ⟨(rE rfl <| rE rfl <| rN), (hE rfl <| hO rfl <| hN), rfl, rfl, (roE rfl <| roE (Q7 _ _ _) <| roN), rfl, (fR 0 rfl rfl rfl rfl <| fD <| fO 2 rfl rfl rfl <| fN), rfl⟩, ?_⟩
 obtain rfl := Qb h
 show Exists _
 exact ⟨(rho [0, 1, 2]), ⟨(rE rfl <| rN), (hE rfl <| hD <| hO rfl <| hN), rfl, rfl, (roE rfl <| roE rfl <| roE (Q7 _ _ _) <| roN)⟩⟩
def Zj (N : Nat) (d : Z4) : Option (List UInt8) :=
 (Wb N d.v.N' d.c.Width).bind fun v1 =>
 some v1
theorem Xr {N} {d} {r} (h : Zj N d = some r) : Zx Tryz.prog G1 137 [.agg (Z4.cells d)] (.str r) := by
 refine Q6 Qy3 ?_
 unfold Zj at h
 refine cP h Wm p2 fun v1 h => ?_
 cases h; exact (.p _)
def Xw (N : Nat) (d : Z4) : Option (List UInt8) :=
 (Wb N (IntKind.wrap .u64 (d.v.Text.length : Int)) d.c.Width).bind fun v1 =>
 cond (Nat.ble (v1.length + d.v.Text.length) 4611686018427387904) (some (v1 ++ d.v.Text)) none
theorem Q1f {N} {d} {r} (h : Xw N d = some r) : Zx Tryz.prog G1 135 [.agg (Z4.cells d)] (.str r) := by
 refine Q6 Qxq ?_
 unfold Xw at h
 refine Qh ?_
 refine cD h Wm p2 fun v1 h => ?_
 refine kU h fun h => ?_
 cases h; exact (.p _)
def Vc (_N : Nat) (d : Z4) : Option (List UInt8) :=
 some []
theorem Q1w {N} {d} {r} (h : Vc N d = some r) : Zx Tryz.prog G1 136 [.agg (Z4.cells d)] (.str r) := by
 refine Q6 Qy0 ?_
 unfold Vc at h
 cases h; exact (.p _)
def Uc (_N : Nat) (d : Z4) : Option (List UInt8) :=
 some d.v.Text
theorem Q19 {N} {d} {r} (h : Uc N d = some r) : Zx Tryz.prog G1 138 [.agg (Z4.cells d)] (.str r) := by
 refine Q6 Qxs ?_
 unfold Uc at h
 cases h; exact (.p _)
def Jm (N : Nat) (code : Int) (v : Q0) : Option ((List UInt8) × Int) :=
 (Yc N v).bind fun v1 =>
 cond (Q9 .neq v1 0)
 (some ([], v1))
 ((U0 N code v).bind fun v4 =>
 cond (!v4)
 (some ([], 2))
 ((Qy N code).bind fun v7 =>
 cond v7.1.Sized
 ((Xw N (⟨v7.1, v⟩ : Z4)).bind fun v10 =>
 some (v10, 0))
 (cond ((v7.1.Width : Int) == 0)
 ((Vc N (⟨v7.1, v⟩ : Z4)).bind fun v13 =>
 some (v13, 0))
 (cond ((v7.1.Width : Int) == 1)
 ((Zj N (⟨v7.1, v⟩ : Z4)).bind fun v16 =>
 some (v16, 0))
 (cond ((v7.1.Width : Int) == 2)
 ((Zj N (⟨v7.1, v⟩ : Z4)).bind fun v19 =>
 some (v19, 0))
 (cond ((v7.1.Width : Int) == 4)
 ((Zj N (⟨v7.1, v⟩ : Z4)).bind fun v22 =>
 some (v22, 0))
 (cond ((v7.1.Width : Int) == 8)
 ((Zj N (⟨v7.1, v⟩ : Z4)).bind fun v25 =>
 some (v25, 0))
 (cond ((v7.1.Width : Int) == 16)
 ((Uc N (⟨v7.1, v⟩ : Z4)).bind fun v28 =>
 some (v28, 0))
 (none)))))))))
theorem Q7k {N} {code} {v} {r} (h : Jm N code v = some r) : Zx Tryz.prog G1 116 [.int .i64 code, .agg (Q0.cells v)] (.tuple [.str r.1, .int .i64 r.2]) := by
 refine Q6 Qw3 ?_
 unfold Jm at h
 refine cP h X7 (.cons q4 .nil) fun v1 h => ?_
 apply iU h <;> intro h
 ·obtain rfl := Qb h; exact u2
 ·refine cP h Q17 (.cons (.p _) (.cons q4 .nil)) fun v4 h => ?_
  apply iU h <;> intro h
  ·obtain rfl := Qb h; exact u2
  ·refine cP h Xb p1 fun v7 h => ?_
   apply iU h <;> intro h
   ·refine cP h Q1f (.cons (Frz.agg' (.cons (.p _) (.cons (.p _) (.cons (.p _) (.cons (.p _) p5))))) .nil) fun v10 h => ?_
    obtain rfl := Qb h; exact u2
   ·apply iU h <;> intro h
    ·refine cP h Q1w (.cons (Frz.agg' (.cons (.p _) (.cons (.p _) (.cons (.p _) (.cons (.p _) p5))))) .nil) fun v13 h => ?_
     obtain rfl := Qb h; exact u2
    ·apply iU h <;> intro h
     ·refine cP h Xr (.cons (Frz.agg' (.cons (.p _) (.cons (.p _) (.cons (.p _) (.cons (.p _) p5))))) .nil) fun v16 h => ?_
      obtain rfl := Qb h; exact u2
     ·apply iU h <;> intro h
      ·refine cP h Xr (.cons (Frz.agg' (.cons (.p _) (.cons (.p _) (.cons (.p _) (.cons (.p _) p5))))) .nil) fun v19 h => ?_
       obtain rfl := Qb h; exact u2
      ·apply iU h <;> intro h
       ·refine cP h Xr (.cons (Frz.agg' (.cons (.p _) (.cons (.p _) (.cons (.p _) (.cons (.p _) p5))))) .nil) fun v22 h => ?_
        obtain rfl := Qb h; exact u2
       ·apply iU h <;> intro h
        ·refine cP h Xr (.cons (Frz.agg' (.cons (.p _) (.cons (.p _) (.cons (.p _) (.cons (.p _) p5))))) .nil) fun v25 h => ?_
         obtain rfl := Qb h; exact u2
        ·apply iU h <;> intro h
         ·refine cP h Q19 (.cons (Frz.agg' (.cons (.p _) (.cons (.p _) (.cons (.p _) (.cons (.p _) p5))))) .nil) fun v28 h => ?_
          obtain rfl := Qb h; exact u2
         ·first | (cases h; done) | (simp [Qqh] at h; done)
def Xa (rx1 : Q2 → Q1 → Option ((Unit) × Q2)) (ry1 : Q2 → Int → Q1 → Option ((Unit) × Q2)) (N : Nat) (w : Q2) (f : Q1) : Option ((Unit) × Q2) :=
 (Yj N f).bind fun v1 =>
 (Z0 N w.buffer v1 1).bind fun v3 =>
 (ry1 (⟨v3.2⟩ : Q2) v1 f).bind fun v5 =>
 some ((), v5.2)
theorem Q0c {rx1 : Q2 → Q1 → Option ((Unit) × Q2)} {ry1 : Q2 → Int → Q1 → Option ((Unit) × Q2)} (hx3 : ∀ {w} {f} {r}, rx1 w f = some r → GC Tryz.prog G1 62 (.ptr 0 0 :: .p (.agg (Q1.cells f)) :: []) (.cells (.slice 1 1 0 w.buffer.b.length :: []) :: .cells (Yk (cI .u8) w.buffer.b) :: []) (.tuple []) (.cells (.slice 1 2 0 r.2.buffer.b.length :: []) :: .dead :: .cells (Yk (cI .u8) r.2.buffer.b) :: [])) (hy3 : ∀ {w} {code} {f} {r}, ry1 w code f = some r → GC Tryz.prog G1 93 (.ptr 0 0 :: .p (.int .i64 code) :: .p (.agg (Q1.cells f)) :: []) (.cells (.slice 1 1 0 w.buffer.b.length :: []) :: .cells (Yk (cI .u8) w.buffer.b) :: []) (.tuple []) (.cells (.slice 1 2 0 r.2.buffer.b.length :: []) :: .dead :: .cells (Yk (cI .u8) r.2.buffer.b) :: [])) {N} {w} {f} {r} (h : Xa rx1 ry1 N w f = some r) : GC Tryz.prog G1 62 (.ptr 0 0 :: .p (.agg (Q1.cells f)) :: []) (.cells (.slice 1 1 0 w.buffer.b.length :: []) :: .cells (Yk (cI .u8) w.buffer.b) :: []) (.tuple []) (.cells (.slice 1 2 0 r.2.buffer.b.length :: []) :: .dead :: .cells (Yk (cI .u8) r.2.buffer.b) :: []) := by
 refine Q0p k62 (Nat.le_of_ble_eq_true rfl) ?_
 unfold Xa at h
 refine cP h Vs (.cons (Frz.agg' (.cons (.p _) (.cons (.p _) p5))) .nil) fun v1 h => ?_
 refine cG h Ya fun v3 h => ?_
 refine ⟨rho [0, 1], (.cells (.slice 1 3 0 v3.2.b.length :: []) :: .dead :: .cells (iI f.v.Kind :: iW f.v.N' :: iS f.v.Text :: .p (.slice 4 (Q0.rows f.v.Items)) :: .p (.slice 7 (Q1.rows f.kids)) :: iI f.element :: iI f.inner :: []) :: .cells (Yk (cI .u8) v3.2.b) :: []), .tuple [], ⟨(rE rfl <| rE rfl <| rE rfl <| rN), (hE rfl <| hO rfl <| hN), rfl, rfl, (roE rfl <| roE (Q7 _ _ _) <| roN), rfl, (fR 0 rfl rfl rfl rfl <| fD <| fK rfl rfl <| fO 2 rfl rfl rfl <| fN), rfl⟩, ?_⟩
 refine cG h hy3 fun v5 h => ?_
 refine ⟨rho [0, 3], (.cells (.slice 1 4 0 v5.2.buffer.b.length :: []) :: .dead :: .cells (iI f.v.Kind :: iW f.v.N' :: iS f.v.Text :: .p (.slice 4 (Q0.rows f.v.Items)) :: .p (.slice 7 (Q1.rows f.kids)) :: iI f.element :: iI f.inner :: []) :: .dead :: .cells (Yk (cI .u8) v5.2.buffer.b) :: []), .tuple [], ⟨(rE rfl <| rE rfl <| rF (Frz.agg' (.cons (.p _) (.cons (.p _) p5))) <| rN), (hE rfl <| hO rfl <| hN), rfl, rfl, (roE rfl <| roE (Q7 _ _ _) <| roN), rfl, (fR 0 rfl rfl rfl rfl <| fD <| fK rfl rfl <| fD <| fO 2 rfl rfl rfl <| fN), rfl⟩, ?_⟩
 obtain rfl := Qb h
 show Exists _
 exact ⟨(rho [0, 1, 4]), ⟨(rE rfl <| rN), (hE rfl <| hD <| hO rfl <| hN), rfl, rfl, (roE rfl <| roE rfl <| roE (Q7 _ _ _) <| roN)⟩⟩
def Zy (ry1 : Q2 → Int → Q1 → Option ((Unit) × Q2)) (N : Nat) (f : Q1) : Nat → Int → (List Int) → Option ((Unit) × Q2)
 | 0, _, _ => none
 | n + 1, s28, l29 =>
  cond (Q9 .lss s28 ((Q1.rows f.kids).length : Int))
  ((idx f.kids s28).bind fun y31 =>
  (ry1 (⟨(⟨l29⟩ : Qp)⟩ : Q2) f.element y31).bind fun v33 =>
  Zy ry1 N f n (IntKind.wrap .i64 (s28 + 1)) v33.2.buffer.b)
  (some ((), (⟨(⟨l29⟩ : Qp)⟩ : Q2)))
def Y0 (rx1 : Q2 → Q1 → Option ((Unit) × Q2)) (N : Nat) (f : Q1) : Nat → Int → (List Int) → Option ((Unit) × Q2)
 | 0, _, _ => none
 | n + 1, s47, l48 =>
  cond (Q9 .lss s47 ((Q1.rows f.kids).length : Int))
  ((idx f.kids s47).bind fun y50 =>
  (rx1 (⟨(⟨l48⟩ : Qp)⟩ : Q2) y50).bind fun v52 =>
  Y0 rx1 N f n (IntKind.wrap .i64 (s47 + 1)) v52.2.buffer.b)
  (some ((), (⟨(⟨l48⟩ : Qp)⟩ : Q2)))
def Xq (ry1 : Q2 → Int → Q1 → Option ((Unit) × Q2)) (N : Nat) (f : Q1) : Nat → Int → (List Int) → Option ((Unit) × Q2)
 | 0, _, _ => none
 | n + 1, s69, l70 =>
  cond (Q9 .lss s69 ((Q1.rows f.kids).length : Int))
  ((idx f.kids s69).bind fun y72 =>
  (ry1 (⟨(⟨l70⟩ : Qp)⟩ : Q2) f.element y72).bind fun v74 =>
  Xq ry1 N f n (IntKind.wrap .i64 (s69 + 1)) v74.2.buffer.b)
  (some ((), (⟨(⟨l70⟩ : Qp)⟩ : Q2)))
def Zz (rx1 : Q2 → Q1 → Option ((Unit) × Q2)) (N : Nat) (f : Q1) : Nat → Int → (List Int) → Option ((Unit) × Q2)
 | 0, _, _ => none
 | n + 1, s88, l89 =>
  cond (Q9 .lss s88 ((Q1.rows f.kids).length : Int))
  ((idx f.kids s88).bind fun y91 =>
  (rx1 (⟨(⟨l89⟩ : Qp)⟩ : Q2) y91).bind fun v93 =>
  Zz rx1 N f n (IntKind.wrap .i64 (s88 + 1)) v93.2.buffer.b)
  (some ((), (⟨(⟨l89⟩ : Qp)⟩ : Q2)))
def Y3 (rx1 : Q2 → Q1 → Option ((Unit) × Q2)) (ry1 : Q2 → Int → Q1 → Option ((Unit) × Q2)) (N : Nat) (w : Q2) (code : Int) (f : Q1) : Option ((Unit) × Q2) :=
 (Qy N code).bind fun v1 =>
 cond (!v1.1.Items)
 ((Jm N code f.v).bind fun v4 =>
 (Yz N w.buffer v4.1).bind fun v6 =>
 some ((), (⟨v6.2⟩ : Q2)))
 (cond v1.1.Sized
 ((Z0 N w.buffer (IntKind.wrap .i64 (v1.1.Width + f.inner)) v1.1.Width).bind fun v9 =>
 (Z0 N v9.2 ((Q1.rows f.kids).length : Int) v1.1.Width).bind fun v11 =>
 cond (Q9 .eql v1.1.Kind 24)
 ((Z0 N v11.2 f.element 1).bind fun v14 =>
 Zy ry1 N f N 0 v14.2.b)
 (Y0 rx1 N f N 0 v11.2.b))
 (cond (Q9 .eql v1.1.Kind 24)
 ((Z0 N w.buffer f.element 1).bind fun v55 =>
 Xq ry1 N f N 0 v55.2.b)
 (Zz rx1 N f N 0 w.buffer.b)))
theorem Q0x {rx1 : Q2 → Q1 → Option ((Unit) × Q2)} {ry1 : Q2 → Int → Q1 → Option ((Unit) × Q2)} (hx3 : ∀ {w} {f} {r}, rx1 w f = some r → GC Tryz.prog G1 62 (.ptr 0 0 :: .p (.agg (Q1.cells f)) :: []) (.cells (.slice 1 1 0 w.buffer.b.length :: []) :: .cells (Yk (cI .u8) w.buffer.b) :: []) (.tuple []) (.cells (.slice 1 2 0 r.2.buffer.b.length :: []) :: .dead :: .cells (Yk (cI .u8) r.2.buffer.b) :: [])) (hy3 : ∀ {w} {code} {f} {r}, ry1 w code f = some r → GC Tryz.prog G1 93 (.ptr 0 0 :: .p (.int .i64 code) :: .p (.agg (Q1.cells f)) :: []) (.cells (.slice 1 1 0 w.buffer.b.length :: []) :: .cells (Yk (cI .u8) w.buffer.b) :: []) (.tuple []) (.cells (.slice 1 2 0 r.2.buffer.b.length :: []) :: .dead :: .cells (Yk (cI .u8) r.2.buffer.b) :: [])) {N} {w} {code} {f} {r} (h : Y3 rx1 ry1 N w code f = some r) : GC Tryz.prog G1 93 (.ptr 0 0 :: .p (.int .i64 code) :: .p (.agg (Q1.cells f)) :: []) (.cells (.slice 1 1 0 w.buffer.b.length :: []) :: .cells (Yk (cI .u8) w.buffer.b) :: []) (.tuple []) (.cells (.slice 1 2 0 r.2.buffer.b.length :: []) :: .dead :: .cells (Yk (cI .u8) r.2.buffer.b) :: []) := by
 refine Q0p k93 (Nat.le_of_ble_eq_true rfl) ?_
 unfold Y3 at h
 refine cP h Xb p1 fun v1 h => ?_
 apply iU h <;> intro h
 ·refine cP h Q7k (.cons (.p _) (.cons q4 .nil)) fun v4 h => ?_
  refine cG h J4 fun v6 h => ?_
  refine ⟨rho [0, 1], (.cells (.slice 1 4 0 v6.2.b.length :: []) :: .dead :: .cells (iI f.v.Kind :: iW f.v.N' :: iS f.v.Text :: .p (.slice 4 (Q0.rows f.v.Items)) :: .p (.slice 7 (Q1.rows f.kids)) :: iI f.element :: iI f.inner :: []) :: .cells (iI v1.1.Code :: iI v1.1.Kind :: iI v1.1.Width :: .p (.bool v1.1.Sized) :: .p (.bool v1.1.Items) :: []) :: .cells (Yk (cI .u8) v6.2.b) :: []), .tuple [], ⟨(rE rfl <| rE rfl <| rN), (hE rfl <| hO rfl <| hN), rfl, rfl, (roE rfl <| roE (Q7 _ _ _) <| roN), rfl, (fR 0 rfl rfl rfl rfl <| fD <| fK rfl rfl <| fK rfl rfl <| fO 2 rfl rfl rfl <| fN), rfl⟩, ?_⟩
  obtain rfl := Qb h
  show Exists _
  exact ⟨(rho [0, 1, 4]), ⟨(rE rfl <| rN), (hE rfl <| hD <| hO rfl <| hN), rfl, rfl, (roE rfl <| roE rfl <| roE (Q7 _ _ _) <| roN)⟩⟩
 ·apply iU h <;> intro h
  ·refine J5 10 rfl rfl ?_
   refine cG h Ya fun v9 h => ?_
   refine ⟨rho [0, 1], (.cells (.slice 1 4 0 v9.2.b.length :: []) :: .dead :: .cells (iI f.v.Kind :: iW f.v.N' :: iS f.v.Text :: .p (.slice 4 (Q0.rows f.v.Items)) :: .p (.slice 7 (Q1.rows f.kids)) :: iI f.element :: iI f.inner :: []) :: .cells (iI v1.1.Code :: iI v1.1.Kind :: iI v1.1.Width :: .p (.bool v1.1.Sized) :: .p (.bool v1.1.Items) :: []) :: .cells (Yk (cI .u8) v9.2.b) :: []), .tuple [], ⟨(rE rfl <| rE rfl <| rE rfl <| rN), (hE rfl <| hO rfl <| hN), rfl, rfl, (roE rfl <| roE (Q7 _ _ _) <| roN), rfl, (fR 0 rfl rfl rfl rfl <| fD <| fK rfl rfl <| fK rfl rfl <| fO 2 rfl rfl rfl <| fN), rfl⟩, ?_⟩
   refine J5 8 rfl rfl ?_
   refine cG h Ya fun v11 h => ?_
   refine ⟨rho [0, 4], (.cells (.slice 1 5 0 v11.2.b.length :: []) :: .dead :: .cells (iI f.v.Kind :: iW f.v.N' :: iS f.v.Text :: .p (.slice 4 (Q0.rows f.v.Items)) :: .p (.slice 7 (Q1.rows f.kids)) :: iI f.element :: iI f.inner :: []) :: .cells (iI v1.1.Code :: iI v1.1.Kind :: iI v1.1.Width :: .p (.bool v1.1.Sized) :: .p (.bool v1.1.Items) :: []) :: .dead :: .cells (Yk (cI .u8) v11.2.b) :: []), .tuple [], ⟨(rE rfl <| rE rfl <| rE rfl <| rN), (hE rfl <| hO rfl <| hN), rfl, rfl, (roE rfl <| roE (Q7 _ _ _) <| roN), rfl, (fR 0 rfl rfl rfl rfl <| fD <| fK rfl rfl <| fK rfl rfl <| fD <| fO 2 rfl rfl rfl <| fN), rfl⟩, ?_⟩
   refine ifO h (fun hc13 h => ?_) (fun hc13 h => ?_)
   ·refine J5 5 rfl rfl ?_
    refine cG h Ya fun v14 h => ?_
    refine ⟨rho [0, 5], (.cells (.slice 1 6 0 v14.2.b.length :: []) :: .dead :: .cells (iI f.v.Kind :: iW f.v.N' :: iS f.v.Text :: .p (.slice 4 (Q0.rows f.v.Items)) :: .p (.slice 7 (Q1.rows f.kids)) :: iI f.element :: iI f.inner :: []) :: .cells (iI v1.1.Code :: iI v1.1.Kind :: iI v1.1.Width :: .p (.bool v1.1.Sized) :: .p (.bool v1.1.Items) :: []) :: .dead :: .dead :: .cells (Yk (cI .u8) v14.2.b) :: []), .tuple [], ⟨(rE rfl <| rE rfl <| rE rfl <| rN), (hE rfl <| hO rfl <| hN), rfl, rfl, (roE rfl <| roE (Q7 _ _ _) <| roN), rfl, (fR 0 rfl rfl rfl rfl <| fD <| fK rfl rfl <| fK rfl rfl <| fD <| fD <| fO 2 rfl rfl rfl <| fN), rfl⟩, ?_⟩
    refine lpC (τ := Int × (List Int)) (fun ⟨s28, _⟩ => (.ptr 0 0 :: a4 (.ptr 2 0 :: .ptr 3 0 :: a16 (a16 (a16 (a8 (.any :: .p (.slice 7 (Q1.rows f.kids)) :: iI ((Q1.rows f.kids).length : Int) :: iI s28 :: a8 (a4 (a2 (.any :: [])))))))) : List AV)) (fun ⟨_, l29⟩ => (.cells (.slice 1 7 0 l29.length :: []) :: .dead :: .cells (iI f.v.Kind :: iW f.v.N' :: iS f.v.Text :: .p (.slice 4 (Q0.rows f.v.Items)) :: .p (.slice 7 (Q1.rows f.kids)) :: iI f.element :: iI f.inner :: []) :: .cells (iI v1.1.Code :: iI v1.1.Kind :: iI v1.1.Width :: .p (.bool v1.1.Sized) :: .p (.bool v1.1.Items) :: []) :: .dead :: .dead :: .dead :: .cells (Yk (cI .u8) l29) :: [] : List AObj)) (fun n0 ⟨s28, l29⟩ => Zy ry1 N f n0 s28 l29) (0, v14.2.b) h (rho [0, 1, 2, 3, 4, 5, 6, 6]) ⟨(rE rfl <| rV <| rE rfl <| rE rfl <| rX <| rX <| rX <| rX <| rX <| rX <| rX <| rA <| rE rfl <| rE rfl <| rE rfl <| rX <| rV <| rW <| rA <| rN), (hE rfl <| hD <| hE rfl <| hE rfl <| hD <| hD <| hD <| hO rfl <| hN), rfl, rfl, (roE rfl <| roE rfl <| roE rfl <| roE rfl <| roE rfl <| roE rfl <| roE rfl <| roE (Q7 _ _ _) <| roN)⟩ fun n0 ⟨s28, l29⟩ h => ?_
    simp only [Zy] at h
    apply iU h <;> intro h
    ·refine Q1.xR h fun y31 h => ?_
     refine ifT hc13 ?_
     refine cG h hy3 fun v33 h => ?_
     refine ⟨rho [0, 7], (.cells (.slice 1 9 0 v33.2.buffer.b.length :: []) :: .dead :: .cells (iI f.v.Kind :: iW f.v.N' :: iS f.v.Text :: .p (.slice 4 (Q0.rows f.v.Items)) :: .p (.slice 7 (Q1.rows f.kids)) :: iI f.element :: iI f.inner :: []) :: .cells (iI v1.1.Code :: iI v1.1.Kind :: iI v1.1.Width :: .p (.bool v1.1.Sized) :: .p (.bool v1.1.Items) :: []) :: .dead :: .dead :: .dead :: .dead :: .cells (iI y31.v.Kind :: iW y31.v.N' :: iS y31.v.Text :: .p (.slice 4 (Q0.rows y31.v.Items)) :: .p (.slice 7 (Q1.rows y31.kids)) :: iI y31.element :: iI y31.inner :: []) :: .cells (Yk (cI .u8) v33.2.buffer.b) :: []), .tuple [], ⟨(rE rfl <| rE rfl <| rF (Frz.agg' (.cons (.p _) (.cons (.p _) p5))) <| rN), (hE rfl <| hO rfl <| hN), rfl, rfl, (roE rfl <| roE (Q7 _ _ _) <| roN), rfl, (fR 0 rfl rfl rfl rfl <| fD <| fK rfl rfl <| fK rfl rfl <| fD <| fD <| fD <| fD <| fK rfl rfl <| fO 2 rfl rfl rfl <| fN), rfl⟩, ?_⟩
     show Exists _
     exact ⟨(n0, (IntKind.wrap .i64 (s28 + 1)), v33.2.buffer.b), h, Nat.lt_succ_self _, (rho [0, 1, 2, 3, 4, 5, 6, 9]), ⟨(rE rfl <| rV <| rE rfl <| rE rfl <| rX <| rX <| rX <| rX <| rX <| rX <| rX <| rA <| rE rfl <| rE rfl <| rE rfl <| rX <| rV <| rW <| rA <| rN), (hE rfl <| hD <| hE rfl <| hE rfl <| hD <| hD <| hD <| hO rfl <| hN), rfl, rfl, (roE rfl <| roE rfl <| roE rfl <| roE rfl <| roE rfl <| roE rfl <| roE rfl <| roE (Q7 _ _ _) <| roN)⟩⟩
    ·obtain rfl := Qb h
     show Exists _
     exact ⟨(rho [0, 1, 7]), ⟨(rE rfl <| rN), (hE rfl <| hD <| hO rfl <| hN), rfl, rfl, (roE rfl <| roE rfl <| roE (Q7 _ _ _) <| roN)⟩⟩
   ·refine lpC (τ := Int × (List Int)) (fun ⟨s47, _⟩ => (.ptr 0 0 :: a4 (.ptr 2 0 :: .ptr 3 0 :: a16 (a16 (a16 (a8 (.any :: .p (.slice 7 (Q1.rows f.kids)) :: iI ((Q1.rows f.kids).length : Int) :: iI s47 :: a8 (a4 (a2 (.any :: [])))))))) : List AV)) (fun ⟨_, l48⟩ => (.cells (.slice 1 6 0 l48.length :: []) :: .dead :: .cells (iI f.v.Kind :: iW f.v.N' :: iS f.v.Text :: .p (.slice 4 (Q0.rows f.v.Items)) :: .p (.slice 7 (Q1.rows f.kids)) :: iI f.element :: iI f.inner :: []) :: .cells (iI v1.1.Code :: iI v1.1.Kind :: iI v1.1.Width :: .p (.bool v1.1.Sized) :: .p (.bool v1.1.Items) :: []) :: .dead :: .dead :: .cells (Yk (cI .u8) l48) :: [] : List AObj)) (fun n1 ⟨s47, l48⟩ => Y0 rx1 N f n1 s47 l48) (0, v11.2.b) h (rho [0, 1, 2, 3, 4, 5, 5]) ⟨(rE rfl <| rV <| rE rfl <| rE rfl <| rX <| rX <| rX <| rX <| rX <| rX <| rX <| rA <| rE rfl <| rE rfl <| rE rfl <| rX <| rV <| rW <| rA <| rN), (hE rfl <| hD <| hE rfl <| hE rfl <| hD <| hD <| hO rfl <| hN), rfl, rfl, (roE rfl <| roE rfl <| roE rfl <| roE rfl <| roE rfl <| roE rfl <| roE (Q7 _ _ _) <| roN)⟩ fun n1 ⟨s47, l48⟩ h => ?_
    simp only [Y0] at h
    apply iU h <;> intro h
    ·refine Q1.xR h fun y50 h => ?_
     refine ifF hc13 ?_
     refine cG h hx3 fun v52 h => ?_
     refine ⟨rho [0, 6], (.cells (.slice 1 8 0 v52.2.buffer.b.length :: []) :: .dead :: .cells (iI f.v.Kind :: iW f.v.N' :: iS f.v.Text :: .p (.slice 4 (Q0.rows f.v.Items)) :: .p (.slice 7 (Q1.rows f.kids)) :: iI f.element :: iI f.inner :: []) :: .cells (iI v1.1.Code :: iI v1.1.Kind :: iI v1.1.Width :: .p (.bool v1.1.Sized) :: .p (.bool v1.1.Items) :: []) :: .dead :: .dead :: .dead :: .cells (iI y50.v.Kind :: iW y50.v.N' :: iS y50.v.Text :: .p (.slice 4 (Q0.rows y50.v.Items)) :: .p (.slice 7 (Q1.rows y50.kids)) :: iI y50.element :: iI y50.inner :: []) :: .cells (Yk (cI .u8) v52.2.buffer.b) :: []), .tuple [], ⟨(rE rfl <| rF (Frz.agg' (.cons (.p _) (.cons (.p _) p5))) <| rN), (hE rfl <| hO rfl <| hN), rfl, rfl, (roE rfl <| roE (Q7 _ _ _) <| roN), rfl, (fR 0 rfl rfl rfl rfl <| fD <| fK rfl rfl <| fK rfl rfl <| fD <| fD <| fD <| fK rfl rfl <| fO 2 rfl rfl rfl <| fN), rfl⟩, ?_⟩
     show Exists _
     exact ⟨(n1, (IntKind.wrap .i64 (s47 + 1)), v52.2.buffer.b), h, Nat.lt_succ_self _, (rho [0, 1, 2, 3, 4, 5, 8]), ⟨(rE rfl <| rV <| rE rfl <| rE rfl <| rX <| rX <| rX <| rX <| rX <| rX <| rX <| rA <| rE rfl <| rE rfl <| rE rfl <| rX <| rV <| rW <| rA <| rN), (hE rfl <| hD <| hE rfl <| hE rfl <| hD <| hD <| hO rfl <| hN), rfl, rfl, (roE rfl <| roE rfl <| roE rfl <| roE rfl <| roE rfl <| roE rfl <| roE (Q7 _ _ _) <| roN)⟩⟩
    ·obtain rfl := Qb h
     show Exists _
     exact ⟨(rho [0, 1, 6]), ⟨(rE rfl <| rN), (hE rfl <| hD <| hO rfl <| hN), rfl, rfl, (roE rfl <| roE rfl <| roE (Q7 _ _ _) <| roN)⟩⟩
  ·refine ifO h (fun hc54 h => ?_) (fun hc54 h => ?_)
   ·refine J5 5 rfl rfl ?_
    refine cG h Ya fun v55 h => ?_
    refine ⟨rho [0, 1], (.cells (.slice 1 4 0 v55.2.b.length :: []) :: .dead :: .cells (iI f.v.Kind :: iW f.v.N' :: iS f.v.Text :: .p (.slice 4 (Q0.rows f.v.Items)) :: .p (.slice 7 (Q1.rows f.kids)) :: iI f.element :: iI f.inner :: []) :: .cells (iI v1.1.Code :: iI v1.1.Kind :: iI v1.1.Width :: .p (.bool v1.1.Sized) :: .p (.bool v1.1.Items) :: []) :: .cells (Yk (cI .u8) v55.2.b) :: []), .tuple [], ⟨(rE rfl <| rE rfl <| rE rfl <| rN), (hE rfl <| hO rfl <| hN), rfl, rfl, (roE rfl <| roE (Q7 _ _ _) <| roN), rfl, (fR 0 rfl rfl rfl rfl <| fD <| fK rfl rfl <| fK rfl rfl <| fO 2 rfl rfl rfl <| fN), rfl⟩, ?_⟩
    refine lpC (τ := Int × (List Int)) (fun ⟨s69, _⟩ => (.ptr 0 0 :: a4 (.ptr 2 0 :: .ptr 3 0 :: a16 (a16 (a16 (a8 (.any :: .p (.slice 7 (Q1.rows f.kids)) :: iI ((Q1.rows f.kids).length : Int) :: iI s69 :: a8 (a4 (a2 (.any :: [])))))))) : List AV)) (fun ⟨_, l70⟩ => (.cells (.slice 1 5 0 l70.length :: []) :: .dead :: .cells (iI f.v.Kind :: iW f.v.N' :: iS f.v.Text :: .p (.slice 4 (Q0.rows f.v.Items)) :: .p (.slice 7 (Q1.rows f.kids)) :: iI f.element :: iI f.inner :: []) :: .cells (iI v1.1.Code :: iI v1.1.Kind :: iI v1.1.Width :: .p (.bool v1.1.Sized) :: .p (.bool v1.1.Items) :: []) :: .dead :: .cells (Yk (cI .u8) l70) :: [] : List AObj)) (fun n2 ⟨s69, l70⟩ => Xq ry1 N f n2 s69 l70) (0, v55.2.b) h (rho [0, 1, 2, 3, 4, 4]) ⟨(rE rfl <| rV <| rE rfl <| rE rfl <| rX <| rX <| rX <| rX <| rX <| rX <| rX <| rA <| rE rfl <| rE rfl <| rE rfl <| rX <| rV <| rW <| rA <| rN), (hE rfl <| hD <| hE rfl <| hE rfl <| hD <| hO rfl <| hN), rfl, rfl, (roE rfl <| roE rfl <| roE rfl <| roE rfl <| roE rfl <| roE (Q7 _ _ _) <| roN)⟩ fun n2 ⟨s69, l70⟩ h => ?_
    simp only [Xq] at h
    apply iU h <;> intro h
    ·refine Q1.xR h fun y72 h => ?_
     refine ifT hc54 ?_
     refine cG h hy3 fun v74 h => ?_
     refine ⟨rho [0, 5], (.cells (.slice 1 7 0 v74.2.buffer.b.length :: []) :: .dead :: .cells (iI f.v.Kind :: iW f.v.N' :: iS f.v.Text :: .p (.slice 4 (Q0.rows f.v.Items)) :: .p (.slice 7 (Q1.rows f.kids)) :: iI f.element :: iI f.inner :: []) :: .cells (iI v1.1.Code :: iI v1.1.Kind :: iI v1.1.Width :: .p (.bool v1.1.Sized) :: .p (.bool v1.1.Items) :: []) :: .dead :: .dead :: .cells (iI y72.v.Kind :: iW y72.v.N' :: iS y72.v.Text :: .p (.slice 4 (Q0.rows y72.v.Items)) :: .p (.slice 7 (Q1.rows y72.kids)) :: iI y72.element :: iI y72.inner :: []) :: .cells (Yk (cI .u8) v74.2.buffer.b) :: []), .tuple [], ⟨(rE rfl <| rE rfl <| rF (Frz.agg' (.cons (.p _) (.cons (.p _) p5))) <| rN), (hE rfl <| hO rfl <| hN), rfl, rfl, (roE rfl <| roE (Q7 _ _ _) <| roN), rfl, (fR 0 rfl rfl rfl rfl <| fD <| fK rfl rfl <| fK rfl rfl <| fD <| fD <| fK rfl rfl <| fO 2 rfl rfl rfl <| fN), rfl⟩, ?_⟩
     show Exists _
     exact ⟨(n2, (IntKind.wrap .i64 (s69 + 1)), v74.2.buffer.b), h, Nat.lt_succ_self _, (rho [0, 1, 2, 3, 4, 7]), ⟨(rE rfl <| rV <| rE rfl <| rE rfl <| rX <| rX <| rX <| rX <| rX <| rX <| rX <| rA <| rE rfl <| rE rfl <| rE rfl <| rX <| rV <| rW <| rA <| rN), (hE rfl <| hD <| hE rfl <| hE rfl <| hD <| hO rfl <| hN), rfl, rfl, (roE rfl <| roE rfl <| roE rfl <| roE rfl <| roE rfl <| roE (Q7 _ _ _) <| roN)⟩⟩
    ·obtain rfl := Qb h
     show Exists _
     exact ⟨(rho [0, 1, 5]), ⟨(rE rfl <| rN), (hE rfl <| hD <| hO rfl <| hN), rfl, rfl, (roE rfl <| roE rfl <| roE (Q7 _ _ _) <| roN)⟩⟩
   ·refine lpC (τ := Int × (List Int)) (fun ⟨s88, _⟩ => (.ptr 0 0 :: a4 (.ptr 2 0 :: .ptr 3 0 :: a16 (a16 (a16 (a8 (.any :: .p (.slice 7 (Q1.rows f.kids)) :: iI ((Q1.rows f.kids).length : Int) :: iI s88 :: a8 (a4 (a2 (.any :: [])))))))) : List AV)) (fun ⟨_, l89⟩ => (.cells (.slice 1 4 0 l89.length :: []) :: .dead :: .cells (iI f.v.Kind :: iW f.v.N' :: iS f.v.Text :: .p (.slice 4 (Q0.rows f.v.Items)) :: .p (.slice 7 (Q1.rows f.kids)) :: iI f.element :: iI f.inner :: []) :: .cells (iI v1.1.Code :: iI v1.1.Kind :: iI v1.1.Width :: .p (.bool v1.1.Sized) :: .p (.bool v1.1.Items) :: []) :: .cells (Yk (cI .u8) l89) :: [] : List AObj)) (fun n3 ⟨s88, l89⟩ => Zz rx1 N f n3 s88 l89) (0, w.buffer.b) h (rho [0, 1, 2, 3, 1]) ⟨(rE rfl <| rV <| rE rfl <| rE rfl <| rX <| rX <| rX <| rX <| rX <| rX <| rX <| rA <| rE rfl <| rE rfl <| rE rfl <| rX <| rV <| rW <| rA <| rN), (hE rfl <| hD <| hE rfl <| hE rfl <| hO rfl <| hN), rfl, rfl, (roE rfl <| roE rfl <| roE rfl <| roE rfl <| roE (Q7 _ _ _) <| roN)⟩ fun n3 ⟨s88, l89⟩ h => ?_
    simp only [Zz] at h
    apply iU h <;> intro h
    ·refine Q1.xR h fun y91 h => ?_
     refine ifF hc54 ?_
     refine cG h hx3 fun v93 h => ?_
     refine ⟨rho [0, 4], (.cells (.slice 1 6 0 v93.2.buffer.b.length :: []) :: .dead :: .cells (iI f.v.Kind :: iW f.v.N' :: iS f.v.Text :: .p (.slice 4 (Q0.rows f.v.Items)) :: .p (.slice 7 (Q1.rows f.kids)) :: iI f.element :: iI f.inner :: []) :: .cells (iI v1.1.Code :: iI v1.1.Kind :: iI v1.1.Width :: .p (.bool v1.1.Sized) :: .p (.bool v1.1.Items) :: []) :: .dead :: .cells (iI y91.v.Kind :: iW y91.v.N' :: iS y91.v.Text :: .p (.slice 4 (Q0.rows y91.v.Items)) :: .p (.slice 7 (Q1.rows y91.kids)) :: iI y91.element :: iI y91.inner :: []) :: .cells (Yk (cI .u8) v93.2.buffer.b) :: []), .tuple [], ⟨(rE rfl <| rF (Frz.agg' (.cons (.p _) (.cons (.p _) p5))) <| rN), (hE rfl <| hO rfl <| hN), rfl, rfl, (roE rfl <| roE (Q7 _ _ _) <| roN), rfl, (fR 0 rfl rfl rfl rfl <| fD <| fK rfl rfl <| fK rfl rfl <| fD <| fK rfl rfl <| fO 2 rfl rfl rfl <| fN), rfl⟩, ?_⟩
     show Exists _
     exact ⟨(n3, (IntKind.wrap .i64 (s88 + 1)), v93.2.buffer.b), h, Nat.lt_succ_self _, (rho [0, 1, 2, 3, 6]), ⟨(rE rfl <| rV <| rE rfl <| rE rfl <| rX <| rX <| rX <| rX <| rX <| rX <| rX <| rA <| rE rfl <| rE rfl <| rE rfl <| rX <| rV <| rW <| rA <| rN), (hE rfl <| hD <| hE rfl <| hE rfl <| hO rfl <| hN), rfl, rfl, (roE rfl <| roE rfl <| roE rfl <| roE rfl <| roE (Q7 _ _ _) <| roN)⟩⟩
    ·obtain rfl := Qb h
     show Exists _
     exact ⟨(rho [0, 1, 4]), ⟨(rE rfl <| rN), (hE rfl <| hD <| hO rfl <| hN), rfl, rfl, (roE rfl <| roE rfl <| roE (Q7 _ _ _) <| roN)⟩⟩
def Qw : Nat → (Q2 → Q1 → Option ((Unit) × Q2)) × (Q2 → Int → Q1 → Option ((Unit) × Q2))
 | 0 => (fun _ _ => none, fun _ _ _ => none)
 | N + 1 => (Xa ((Qw N).1) ((Qw N).2) N, Y3 ((Qw N).1) ((Qw N).2) N)
def Z3 (N : Nat) : Q2 → Q1 → Option ((Unit) × Q2) := (Qw N).1
def Yq (N : Nat) : Q2 → Int → Q1 → Option ((Unit) × Q2) := (Qw N).2
theorem Q0i : ∀ N, (∀ {w : Q2} {f : Q1} {r : (Unit) × Q2}, (Qw N).1 w f = some r → GC Tryz.prog G1 62 (.ptr 0 0 :: .p (.agg (Q1.cells f)) :: []) (.cells (.slice 1 1 0 w.buffer.b.length :: []) :: .cells (Yk (cI .u8) w.buffer.b) :: []) (.tuple []) (.cells (.slice 1 2 0 r.2.buffer.b.length :: []) :: .dead :: .cells (Yk (cI .u8) r.2.buffer.b) :: [])) ∧ (∀ {w : Q2} {code : Int} {f : Q1} {r : (Unit) × Q2}, (Qw N).2 w code f = some r → GC Tryz.prog G1 93 (.ptr 0 0 :: .p (.int .i64 code) :: .p (.agg (Q1.cells f)) :: []) (.cells (.slice 1 1 0 w.buffer.b.length :: []) :: .cells (Yk (cI .u8) w.buffer.b) :: []) (.tuple []) (.cells (.slice 1 2 0 r.2.buffer.b.length :: []) :: .dead :: .cells (Yk (cI .u8) r.2.buffer.b) :: [])) := by
 intro N
 induction N with
 | zero => exact ⟨(fun h => by simp [Qw] at h), (fun h => by simp [Qw] at h)⟩
 | succ N ih => exact ⟨(fun h => Q0c (N := N) (fun h => ih.1 h) (fun h => ih.2 h) h), (fun h => Q0x (N := N) (fun h => ih.1 h) (fun h => ih.2 h) h)⟩
theorem Q0e {N : Nat} {w : Q2} {f : Q1} {r : (Unit) × Q2} (h : Z3 N w f = some r) : GC Tryz.prog G1 62 (.ptr 0 0 :: .p (.agg (Q1.cells f)) :: []) (.cells (.slice 1 1 0 w.buffer.b.length :: []) :: .cells (Yk (cI .u8) w.buffer.b) :: []) (.tuple []) (.cells (.slice 1 2 0 r.2.buffer.b.length :: []) :: .dead :: .cells (Yk (cI .u8) r.2.buffer.b) :: []) := (Q0i N).1 h
def Yl (rv : Q1 → Int → Option (Int)) (rz1 : Q1 → Option (Int)) (N : Nat) (f : Q1) (code : Int) : Option (Int) :=
 (Qy N code).bind fun v1 =>
 cond (Q9 .eql v1.1.Kind 25)
 ((rz1 f).bind fun v4 =>
 some v4)
 (cond v1.1.Items
 (cond v1.1.Sized
 (some (IntKind.wrap .i64 ((IntKind.wrap .i64 (2 * v1.1.Width)) + f.inner)))
 (some v1.1.Width))
 (cond v1.1.Sized
 (some (IntKind.wrap .i64 (v1.1.Width + (f.v.Text.length : Int))))
 (some v1.1.Width)))
theorem Q22 {rv : Q1 → Int → Option (Int)} {rz1 : Q1 → Option (Int)} (hx2 : ∀ {f} {code} {r}, rv f code = some r → Zx Tryz.prog G1 74 [.agg (Q1.cells f), .int .i64 code] (.int .i64 r)) (hv2 : ∀ {f} {r}, rz1 f = some r → Zx Tryz.prog G1 94 [.agg (Q1.cells f)] (.int .i64 r)) {N} {f} {code} {r} (h : Yl rv rz1 N f code = some r) : Zx Tryz.prog G1 74 [.agg (Q1.cells f), .int .i64 code] (.int .i64 r) := by
 refine Q6 k74 ?_
 unfold Yl at h
 refine cP h Xb p1 fun v1 h => ?_
 apply iU h <;> intro h
 ·refine cP h hv2 (.cons (Frz.agg' (.cons (.p _) (.cons (.p _) p5))) .nil) fun v4 h => ?_
  cases h; exact (.p _)
 ·apply iU h <;> intro h
  ·refine ifO h (fun hc7 h => ?_) (fun hc7 h => ?_)
   ·cases h; exact (.p _)
   ·refine ifF hc7 ?_
    cases h; exact (.p _)
  ·apply iU h <;> intro h
   ·cases h; exact (.p _)
   ·cases h; exact (.p _)
def Y5 (rv : Q1 → Int → Option (Int)) (N : Nat) (f : Q1) : Nat → Int → Int → Option (Int)
 | 0, _, _ => none
 | n + 1, n17, s18 =>
  cond (Q9 .lss s18 ((Q1.rows f.kids).length : Int))
  ((idx f.kids s18).bind fun y20 =>
  (Yj N y20).bind fun v22 =>
  (rv y20 v22).bind fun v24 =>
  Y5 rv N f n (IntKind.wrap .i64 (n17 + (IntKind.wrap .i64 (1 + v24)))) (IntKind.wrap .i64 (s18 + 1)))
  (some n17)
def Ue (rv : Q1 → Int → Option (Int)) (rz1 : Q1 → Option (Int)) (N : Nat) (f : Q1) : Option (Int) :=
 Y5 rv N f N 0 0
theorem Q1e {rv : Q1 → Int → Option (Int)} {rz1 : Q1 → Option (Int)} (hx2 : ∀ {f} {code} {r}, rv f code = some r → Zx Tryz.prog G1 74 [.agg (Q1.cells f), .int .i64 code] (.int .i64 r)) (hv2 : ∀ {f} {r}, rz1 f = some r → Zx Tryz.prog G1 94 [.agg (Q1.cells f)] (.int .i64 r)) {N} {f} {r} (h : Ue rv rz1 N f = some r) : Zx Tryz.prog G1 94 [.agg (Q1.cells f)] (.int .i64 r) := by
 refine Q6 k94 ?_
 unfold Ue at h
 refine lpC (τ := Int × Int) (fun ⟨n17, s18⟩ => (a2 (.any :: iI n17 :: a2 (.any :: .p (.slice 7 (Q1.rows f.kids)) :: iI ((Q1.rows f.kids).length : Int) :: iI s18 :: a8 (a4 ([])))) : List AV)) (fun ⟨_, _⟩ => (.cells (iI f.v.Kind :: iW f.v.N' :: iS f.v.Text :: .p (.slice 4 (Q0.rows f.v.Items)) :: .p (.slice 7 (Q1.rows f.kids)) :: iI f.element :: iI f.inner :: []) :: [] : List AObj)) (fun n0 ⟨n17, s18⟩ => Y5 rv N f n0 n17 s18) (0, 0) h (fun i => i) ⟨(rW <| rA <| rE rfl <| rW <| rA <| rE rfl <| rE rfl <| rE rfl <| rX <| rV <| rN), (hE rfl <| hN), rfl, rfl, (roE rfl <| roN)⟩ fun n0 ⟨n17, s18⟩ h => ?_
 simp only [Y5] at h
 apply iU h <;> intro h
 ·refine Q1.xR h fun y20 h => ?_
  refine Qh ?_
  refine cD h Vs (.cons (Frz.agg' (.cons (.p _) (.cons (.p _) p5))) .nil) fun v22 h => ?_
  refine cD h hx2 (.cons (Frz.agg' (.cons (.p _) (.cons (.p _) p5))) p1) fun v24 h => ?_
  show Exists _
  exact ⟨(n0, (IntKind.wrap .i64 (n17 + (IntKind.wrap .i64 (1 + v24)))), (IntKind.wrap .i64 (s18 + 1))), h, Nat.lt_succ_self _, (fun i => i), ⟨(rW <| rA <| rE rfl <| rW <| rA <| rE rfl <| rE rfl <| rE rfl <| rX <| rV <| rN), (hE rfl <| hN), rfl, rfl, (roE rfl <| roN)⟩⟩
 ·cases h; exact (.p _)
def Z9 : Nat → (Q1 → Int → Option (Int)) × (Q1 → Option (Int))
 | 0 => (fun _ _ => none, fun _ => none)
 | N + 1 => (Yl ((Z9 N).1) ((Z9 N).2) N, Ue ((Z9 N).1) ((Z9 N).2) N)
def Zn (N : Nat) : Q1 → Int → Option (Int) := (Z9 N).1
def Zd (N : Nat) : Q1 → Option (Int) := (Z9 N).2
theorem Jh : ∀ N, (∀ {f : Q1} {code : Int} {r : Int}, (Z9 N).1 f code = some r → Zx Tryz.prog G1 74 [.agg (Q1.cells f), .int .i64 code] (.int .i64 r)) ∧ (∀ {f : Q1} {r : Int}, (Z9 N).2 f = some r → Zx Tryz.prog G1 94 [.agg (Q1.cells f)] (.int .i64 r)) := by
 intro N
 induction N with
 | zero => exact ⟨(fun h => by simp [Z9] at h), (fun h => by simp [Z9] at h)⟩
 | succ N ih => exact ⟨(fun h => Q22 (N := N) (fun h => ih.1 h) (fun h => ih.2 h) h), (fun h => Q1e (N := N) (fun h => ih.1 h) (fun h => ih.2 h) h)⟩
theorem Jj {N : Nat} {f : Q1} {code : Int} {r : Int} (h : Zn N f code = some r) : Zx Tryz.prog G1 74 [.agg (Q1.cells f), .int .i64 code] (.int .i64 r) := (Jh N).1 h
theorem W3 {N : Nat} {f : Q1} {r : Int} (h : Zd N f = some r) : Zx Tryz.prog G1 94 [.agg (Q1.cells f)] (.int .i64 r) := (Jh N).2 h
def Y6 (N : Nat) (f : Q1) : Nat → Int → Int → Option (Int)
 | 0, _, _ => none
 | n + 1, n13, s14 =>
  cond (Q9 .lss s14 ((Q1.rows f.kids).length : Int))
  ((idx f.kids s14).bind fun y16 =>
  (Zn N y16 f.element).bind fun v18 =>
  Y6 N f n (IntKind.wrap .i64 (n13 + v18)) (IntKind.wrap .i64 (s14 + 1)))
  (some n13)
def Xy (N : Nat) (f : Q1) : Option (Int) :=
 Y6 N f N 1 0
theorem J7 {N} {f} {r} (h : Xy N f = some r) : Zx Tryz.prog G1 95 [.agg (Q1.cells f)] (.int .i64 r) := by
 refine Q6 k95 ?_
 unfold Xy at h
 refine lpC (τ := Int × Int) (fun ⟨n13, s14⟩ => (.any :: .ptr 0 0 :: .any :: iI n13 :: a2 (.any :: .p (.slice 7 (Q1.rows f.kids)) :: iI ((Q1.rows f.kids).length : Int) :: iI s14 :: a8 (a2 (.any :: []))) : List AV)) (fun ⟨_, _⟩ => (.cells (iI f.v.Kind :: iW f.v.N' :: iS f.v.Text :: .p (.slice 4 (Q0.rows f.v.Items)) :: .p (.slice 7 (Q1.rows f.kids)) :: iI f.element :: iI f.inner :: []) :: [] : List AObj)) (fun n0 ⟨n13, s14⟩ => Y6 N f n0 n13 s14) (1, 0) h (fun i => i) ⟨(rA <| rE rfl <| rA <| rE rfl <| rW <| rA <| rE rfl <| rE rfl <| rE rfl <| rX <| rW <| rA <| rN), (hE rfl <| hN), rfl, rfl, (roE rfl <| roN)⟩ fun n0 ⟨n13, s14⟩ h => ?_
 simp only [Y6] at h
 apply iU h <;> intro h
 ·refine Q1.xR h fun y16 h => ?_
  refine cP h Jj (.cons (Frz.agg' (.cons (.p _) (.cons (.p _) p5))) p1) fun v18 h => ?_
  show Exists _
  exact ⟨(n0, (IntKind.wrap .i64 (n13 + v18)), (IntKind.wrap .i64 (s14 + 1))), h, Nat.lt_succ_self _, (fun i => i), ⟨(rA <| rE rfl <| rA <| rE rfl <| rW <| rA <| rE rfl <| rE rfl <| rE rfl <| rX <| rW <| rA <| rN), (hE rfl <| hN), rfl, rfl, (roE rfl <| roN)⟩⟩
 ·cases h; exact (.p _)
end
end
end Go.Av
