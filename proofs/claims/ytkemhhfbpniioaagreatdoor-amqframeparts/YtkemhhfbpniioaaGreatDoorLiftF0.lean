/- The law. Part of a proof of a given statement: for every input the law returns true and the arguments read as before; no condition beyond the given row. -/
import Derived.Test.YtkemhhfbpniioaaGreatDoorLiftTy
import Derived.Test.YtkemhhfbpniioaaGreatDoorChks
import Derived.Test.YtkemhhfbpniioaaGreatDoorSeat1
import Derived.Test.YtkemhhfbpniioaaGreatDoorLiftG
import Derived.Test.YtkemhhfbpniioaaGreatDoorMans
namespace Go.Av
noncomputable section
open Go.Proofs
set_option maxRecDepth 100000
set_option maxHeartbeats 4000000
attribute [local irreducible] Ug Xt Q7v Q9n Q8 Q6m Qcf
section
def Wr (_N : Nat) (b : Qm) : Option ((List UInt8) × Qm) :=
 some ((b.b.map fun n => UInt8.ofNat n.toNat), b)
theorem Q0h {N} {b} {r} (h : Wr N b = some r) : GC Tryz.prog G1 64 (.ptr 0 0 :: []) (.cells (.slice 1 1 0 b.b.length :: []) :: .cells (X3 (cI .u8) b.b) :: []) (.p (.str r.1)) (.cells (.slice 1 2 0 r.2.b.length :: []) :: .dead :: .cells (X3 (cI .u8) r.2.b) :: []) := by
 refine Q06 k64 (Nat.le_of_ble_eq_true rfl) ?_
 unfold Wr at h
 refine Qk7 (l := b.b) (by simp) ?_
 obtain rfl := Zn h
 show Exists _
 exact ⟨(rho [0, 1, 1]), ⟨(rE rfl <| rN), (hE rfl <| hD <| hO rfl <| hN), rfl, rfl, (roE rfl <| roE rfl <| roE (Qa _ _ _) <| roN)⟩⟩
def Ww (rz : Q0 → Option (Q0)) (N : Nat) (v : Q0) (c13 : Int) : Nat → Int → (List Q0) → Option (Q0)
 | 0, _, _ => none
 | n + 1, s39, l40 =>
  cond (Q8 .lss s39 ((Q0.rows v.Items).length : Int))
  ((idx v.Items s39).bind fun y42 =>
  (rz y42).bind fun v44 =>
  cond (Nat.ble ((l40.length + 1 + 4096) * 56) 17592186044416) (Ww rz N v c13 n (IntKind.wrap .i64 (s39 + 1)) (l40 ++ [v44])) none)
  (some (⟨v.Kind, c13, v.Text, l40⟩ : Q0))
def X1 (rz : Q0 → Option (Q0)) (N : Nat) (v : Q0) (c13 : Int) : Option (Q0) :=
 Ww rz N v c13 N 0 []
def Wu (_N : Nat) (k0 : Int → Option (Q0)) (v : Q0) (s22 : Bool) : Option (Q0) :=
 cond s22
 (k0 9221120237041090560)
 (k0 v.N')
def Wv (N : Nat) (k0 : Int → Option (Q0)) (v : Q0) (s16 : Bool) : Option (Q0) :=
 cond s16
 (k0 2143289344)
 (cond (Q8 .eql v.Kind 12)
 (cond (Q8 .eql (Gs .u64 (Q2n .u64 v.N' 52) 2047) 2047)
 (Wu N k0 v (Q8 .neq (Q0z .u64 v.N' 12) 0))
 (Wu N k0 v false))
 (Wu N k0 v false))
def Un (rz : Q0 → Option (Q0)) (N : Nat) (v : Q0) : Option (Q0) :=
 cond (Q8 .eql v.Kind 11)
 (cond (Q8 .eql (Gs .u64 (Q2n .u64 v.N' 23) 255) 255)
 (Wv N (X1 rz N v) v (Q8 .neq (Q0z .u64 v.N' 41) 0))
 (Wv N (X1 rz N v) v false))
 (Wv N (X1 rz N v) v false)
theorem Q5m {rz : Q0 → Option (Q0)} (hy2 : ∀ {v} {r}, rz v = some r → Zo Tryz.prog G1 21 [.agg (Q0.cells v)] (.agg (Q0.cells r))) {N} {v} {r} (h : Un rz N v = some r) : Zo Tryz.prog G1 21 [.agg (Q0.cells v)] (.agg (Q0.cells r)) := by
 refine Q3 k21 ?_
 unfold Un at h
 refine Vp (σ := Int) (fun _ => (.any :: .ptr 0 0 :: .ptr 1 0 :: .ptr 2 0 :: a16 (a16 (a16 (a8 (a4 (.any :: []))))) : List AV)) (fun c13 => (.cells (iI v.Kind :: iW v.N' :: iS v.Text :: .p (.slice 4 (Q0.rows v.Items)) :: []) :: .cells (iI 0 :: iW 0 :: iS [] :: .p .nilSlice :: []) :: .cells (iI v.Kind :: iW c13 :: iS v.Text :: .p .nilSlice :: []) :: [] : List AObj)) (fun c13 => X1 rz N v c13 = some r) (fun _ _ => lb) ?_ ?_
 ·refine Vp (σ := Bool) (fun s16 => (.any :: .ptr 0 0 :: .ptr 1 0 :: .ptr 2 0 :: a8 (.any :: .p (.bool s16) :: a16 (a16 (a16 (a2 (.any :: []))))) : List AV)) (fun _ => (.cells (iI v.Kind :: iW v.N' :: iS v.Text :: .p (.slice 4 (Q0.rows v.Items)) :: []) :: .cells (iI 0 :: iW 0 :: iS [] :: .p .nilSlice :: []) :: .cells (iI v.Kind :: iW v.N' :: iS v.Text :: .p .nilSlice :: []) :: [] : List AObj)) (fun s16 => Wv N (X1 rz N v) v s16 = some r) (fun _ _ => lb) ?_ ?_
  ·apply iU h <;> intro h
   ·apply iU h <;> intro h
    ·show Exists _
     exact ⟨((Q8 .neq (Q0z .u64 v.N' 41) 0)), h, (fun i => i), ⟨(rA <| rE rfl <| rE rfl <| rE rfl <| rX <| rA <| rE rfl <| rX <| rX <| rX <| rX <| rX <| rX <| rW <| rA <| rN), (hE rfl <| hE rfl <| hE rfl <| hN), rfl, rfl, (roE rfl <| roE rfl <| roE rfl <| roN)⟩⟩
    ·show Exists _
     exact ⟨(false), h, (fun i => i), ⟨(rA <| rE rfl <| rE rfl <| rE rfl <| rX <| rA <| rE rfl <| rX <| rX <| rX <| rX <| rX <| rX <| rW <| rA <| rN), (hE rfl <| hE rfl <| hE rfl <| hN), rfl, rfl, (roE rfl <| roE rfl <| roE rfl <| roN)⟩⟩
   ·show Exists _
    exact ⟨(false), h, (fun i => i), ⟨(rA <| rE rfl <| rE rfl <| rE rfl <| rX <| rA <| rE rfl <| rX <| rX <| rX <| rX <| rX <| rX <| rW <| rA <| rN), (hE rfl <| hE rfl <| hE rfl <| hN), rfl, rfl, (roE rfl <| roE rfl <| roE rfl <| roN)⟩⟩
  rintro s16 h
  dsimp only [Wv] at h
  apply iU h <;> intro h
  ·show Exists _
   exact ⟨(2143289344), h, (fun i => i), ⟨(rA <| rE rfl <| rE rfl <| rE rfl <| rX <| rX <| rX <| rX <| rX <| rX <| rX <| rV <| rA <| rN), (hE rfl <| hE rfl <| hE rfl <| hN), rfl, rfl, (roE rfl <| roE rfl <| roE rfl <| roN)⟩⟩
  ·refine Vp (σ := Bool) (fun s22 => (.any :: .ptr 0 0 :: .ptr 1 0 :: .ptr 2 0 :: a16 (a8 (a2 (.any :: .p (.bool s22) :: a16 (a16 (.any :: []))))) : List AV)) (fun _ => (.cells (iI v.Kind :: iW v.N' :: iS v.Text :: .p (.slice 4 (Q0.rows v.Items)) :: []) :: .cells (iI 0 :: iW 0 :: iS [] :: .p .nilSlice :: []) :: .cells (iI v.Kind :: iW v.N' :: iS v.Text :: .p .nilSlice :: []) :: [] : List AObj)) (fun s22 => Wu N (X1 rz N v) v s22 = some r) (fun _ _ => lb) ?_ ?_
   ·apply iU h <;> intro h
    ·apply iU h <;> intro h
     ·show Exists _
      exact ⟨((Q8 .neq (Q0z .u64 v.N' 12) 0)), h, (fun i => i), ⟨(rA <| rE rfl <| rE rfl <| rE rfl <| rX <| rX <| rX <| rW <| rA <| rE rfl <| rX <| rX <| rX <| rX <| rA <| rN), (hE rfl <| hE rfl <| hE rfl <| hN), rfl, rfl, (roE rfl <| roE rfl <| roE rfl <| roN)⟩⟩
     ·show Exists _
      exact ⟨(false), h, (fun i => i), ⟨(rA <| rE rfl <| rE rfl <| rE rfl <| rX <| rX <| rX <| rW <| rA <| rE rfl <| rX <| rX <| rX <| rX <| rA <| rN), (hE rfl <| hE rfl <| hE rfl <| hN), rfl, rfl, (roE rfl <| roE rfl <| roE rfl <| roN)⟩⟩
    ·show Exists _
     exact ⟨(false), h, (fun i => i), ⟨(rA <| rE rfl <| rE rfl <| rE rfl <| rX <| rX <| rX <| rW <| rA <| rE rfl <| rX <| rX <| rX <| rX <| rA <| rN), (hE rfl <| hE rfl <| hE rfl <| hN), rfl, rfl, (roE rfl <| roE rfl <| roE rfl <| roN)⟩⟩
   rintro s22 h
   dsimp only [Wu] at h
   apply iU h <;> intro h
   ·show Exists _
    exact ⟨(9221120237041090560), h, (fun i => i), ⟨(rA <| rE rfl <| rE rfl <| rE rfl <| rX <| rX <| rX <| rX <| rX <| rX <| rX <| rV <| rA <| rN), (hE rfl <| hE rfl <| hE rfl <| hN), rfl, rfl, (roE rfl <| roE rfl <| roE rfl <| roN)⟩⟩
   ·show Exists _
    exact ⟨(v.N'), h, (fun i => i), ⟨(rA <| rE rfl <| rE rfl <| rE rfl <| rX <| rX <| rX <| rX <| rX <| rX <| rX <| rV <| rA <| rN), (hE rfl <| hE rfl <| hE rfl <| hN), rfl, rfl, (roE rfl <| roE rfl <| roE rfl <| roN)⟩⟩
 rintro c13 h
 dsimp only [X1] at h
 refine lpC (τ := Int × (List Q0)) (fun ⟨s39, _⟩ => (.any :: .any :: .ptr 1 0 :: .ptr 2 0 :: a16 (a16 (a8 (a4 (a2 (.p (.slice 4 (Q0.rows v.Items)) :: iI ((Q0.rows v.Items).length : Int) :: iI s39 :: a8 (a4 ([]))))))) : List AV)) (fun ⟨_, l40⟩ => (.cells (iI v.Kind :: iW v.N' :: iS v.Text :: .p (.slice 4 (Q0.rows v.Items)) :: []) :: .cells (iI 0 :: iW 0 :: iS [] :: .p .nilSlice :: []) :: .cells (iI v.Kind :: iW c13 :: iS v.Text :: .slice 4 3 0 l40.length :: []) :: .cells (X3 Q0.cells l40) :: [] : List AObj)) (fun n3 ⟨s39, l40⟩ => Ww rz N v c13 n3 s39 l40) (0, []) h (fun i => i) ⟨(rW <| rE rfl <| rE rfl <| rX <| rX <| rX <| rX <| rX <| rV <| rW <| rE rfl <| rE rfl <| rE rfl <| rX <| rV <| rN), (hE rfl <| hE rfl <| hC rfl (rE rfl <| rE rfl <| rE rfl <| rS <| rN) <| hV lb <| hN), rfl, rfl, (roE rfl <| roE rfl <| roE rfl <| roE (Qa _ _ _) <| roN)⟩ fun n3 ⟨s39, l40⟩ h => ?_
 simp only [Ww] at h
 apply iU h <;> intro h
 ·refine Q0.xR h fun y42 h => ?_
  refine Qx ?_
  refine cD h hy2 (.cons q4 .nil) fun v44 h => ?_
  obtain ⟨hk46, h⟩ := Q9j h
  refine Q7c (J5 (c := Q0.cells) (e := 4) (fun _ => rfl) (by simp) hk46) ?_
  refine Gz (c := Q0.cells) [v44] rfl ?_
  show Exists _
  exact ⟨(n3, (IntKind.wrap .i64 (s39 + 1)), (l40 ++ [v44])), h, Nat.lt_succ_self _, (rho [0, 1, 2, 6]), ⟨(rW <| rE rfl <| rE rfl <| rX <| rX <| rX <| rX <| rX <| rV <| rW <| rE rfl <| rE rfl <| rE rfl <| rX <| rV <| rN), (hE rfl <| hE rfl <| hC rfl (rE rfl <| rE rfl <| rE rfl <| rL (by simp) rfl <| rN) <| hO rfl <| hN), rfl, rfl, (roE rfl <| roE rfl <| roE rfl <| roE (Qa _ _ _) <| roN)⟩⟩
 ·obtain rfl := Zn h; exact (Frz.agg' (.cons (.p _) (.cons (.p _) (.cons (.p _) (.cons (Q0.frz_own (l := l40) rfl trivial (by simp)) .nil)))))
def Xn : Nat → Q0 → Option (Q0)
 | 0 => fun _ => none
 | N + 1 => Un (Xn N) N
theorem Q11 {N} {v} {r} (h : Xn N v = some r) : Zo Tryz.prog G1 21 [.agg (Q0.cells v)] (.agg (Q0.cells r)) := by
 induction N generalizing v r with
 | zero => simp [Xn] at h
 | succ N ih => exact Q5m (fun h => ih h) h
def Vd (_N : Nat) (kind : Int) : Option (Bool) :=
 cond (Q8 .eql kind 15)
 (some true)
 (cond (Q8 .eql kind 18)
 (some true)
 (cond (Q8 .eql kind 19)
 (some true)
 (cond (Q8 .eql kind 20)
 (some true)
 (cond (Q8 .eql kind 21)
 (some true)
 (some false)))))
theorem Q00 {N} {kind} {r} (h : Vd N kind = some r) : Zo Tryz.prog G1 112 [.int .i64 kind] (.bool r) := by
 refine Q3 Qv8 ?_
 unfold Vd at h
 refine ifO h (fun hc1 h => ?_) (fun hc1 h => ?_)
 ·refine ifT hc1 ?_
  cases h; exact (.p _)
 ·refine ifO h (fun hc2 h => ?_) (fun hc2 h => ?_)
  ·refine ifT hc2 ?_
   cases h; exact (.p _)
  ·refine ifO h (fun hc3 h => ?_) (fun hc3 h => ?_)
   ·refine ifT hc3 ?_
    cases h; exact (.p _)
   ·refine ifO h (fun hc4 h => ?_) (fun hc4 h => ?_)
    ·refine ifT hc4 ?_
     cases h; exact (.p _)
    ·apply iU h <;> intro h
     ·cases h; exact (.p _)
     ·cases h; exact (.p _)
def Qg (_N : Nat) (s_0 : List UInt8) : Option (Int) :=
 (idx s_0 0).bind fun b1 =>
 (idx s_0 1).bind fun b3 =>
 (idx s_0 2).bind fun b5 =>
 (idx s_0 3).bind fun b7 =>
 (idx s_0 4).bind fun b9 =>
 (idx s_0 5).bind fun b11 =>
 (idx s_0 6).bind fun b13 =>
 (idx s_0 7).bind fun b15 =>
 some (orI .u64 (orI .u64 (orI .u64 (orI .u64 (orI .u64 (orI .u64 (orI .u64 (IntKind.wrap .u64 (b1.toNat : Int)) (Q0z .u64 (IntKind.wrap .u64 (b3.toNat : Int)) 8)) (Q0z .u64 (IntKind.wrap .u64 (b5.toNat : Int)) 16)) (Q0z .u64 (IntKind.wrap .u64 (b7.toNat : Int)) 24)) (Q0z .u64 (IntKind.wrap .u64 (b9.toNat : Int)) 32)) (Q0z .u64 (IntKind.wrap .u64 (b11.toNat : Int)) 40)) (Q0z .u64 (IntKind.wrap .u64 (b13.toNat : Int)) 48)) (Q0z .u64 (IntKind.wrap .u64 (b15.toNat : Int)) 56))
theorem Qv {N} {s_0} {r} (h : Qg N s_0 = some r) : Zo Tryz.prog G1 154 [.str s_0] (.int .u64 r) := by
 refine Q3 Qwa ?_
 unfold Qg at h
 refine Qx ?_
 refine xB h fun b1 h => ?_
 refine xB h fun b3 h => ?_
 refine xB h fun b5 h => ?_
 refine xB h fun b7 h => ?_
 refine xB h fun b9 h => ?_
 refine xB h fun b11 h => ?_
 refine xB h fun b13 h => ?_
 refine xB h fun b15 h => ?_
 cases h; exact (.p _)
def Za (N : Nat) (k0 : (List UInt8) → Option (Bool)) : Nat → (List UInt8) → Option (Bool)
 | 0, _ => none
 | n + 1, s272 =>
  cond (Q8 .gtr (s272.length : Int) 32)
  ((Qg N s272).bind fun v274 =>
  cond (Nat.ble 8 s272.length && Nat.ble s272.length s272.length) ((Qg N ((s272.take s272.length).drop 8)).bind fun v277 =>
  cond (Nat.ble 16 s272.length && Nat.ble s272.length s272.length) ((Qg N ((s272.take s272.length).drop 16)).bind fun v280 =>
  cond (Nat.ble 24 s272.length && Nat.ble s272.length s272.length) ((Qg N ((s272.take s272.length).drop 24)).bind fun v283 =>
  cond (Q8 .eql (Gs .u64 (orI .u64 (orI .u64 v274 v277) (orI .u64 v280 v283)) 9259542123273814144) 0)
  (cond (Nat.ble 32 s272.length && Nat.ble s272.length s272.length) (Za N k0 n ((s272.take s272.length).drop 32)) none)
  (k0 s272)) none) none) none)
  (k0 s272)
def Q4 (N : Nat) : Nat → (List UInt8) → Option (Bool)
 | 0, _ => none
 | n + 1, s224 =>
  cond (Q8 .gtr (s224.length : Int) 0)
  ((idx s224 0).bind fun b226 =>
  cond (Q8 .lss (b226.toNat : Int) 128)
  (cond (Nat.ble 1 s224.length && Nat.ble s224.length s224.length) (cond (Q8 .gtr (((s224.take s224.length).drop 1).length : Int) 8)
  ((Qg N ((s224.take s224.length).drop 1)).bind fun v231 =>
  cond (Q8 .eql (Gs .u64 v231 9259542123273814144) 0)
  (cond (Nat.ble 8 (((s224.take s224.length).drop 1).length) && Nat.ble (((s224.take s224.length).drop 1).length) ((s224.take s224.length).drop 1).length) (cond (Q8 .gtr (((((s224.take s224.length).drop 1).take (((s224.take s224.length).drop 1).length)).drop 8).length : Int) 16)
  ((Qg N ((((s224.take s224.length).drop 1).take (((s224.take s224.length).drop 1).length)).drop 8)).bind fun v236 =>
  cond (Nat.ble 8 (((((s224.take s224.length).drop 1).take (((s224.take s224.length).drop 1).length)).drop 8).length) && Nat.ble (((((s224.take s224.length).drop 1).take (((s224.take s224.length).drop 1).length)).drop 8).length) ((((s224.take s224.length).drop 1).take (((s224.take s224.length).drop 1).length)).drop 8).length) ((Qg N ((((((s224.take s224.length).drop 1).take (((s224.take s224.length).drop 1).length)).drop 8).take (((((s224.take s224.length).drop 1).take (((s224.take s224.length).drop 1).length)).drop 8).length)).drop 8)).bind fun v239 =>
  cond (Q8 .eql (Gs .u64 (orI .u64 v236 v239) 9259542123273814144) 0)
  (cond (Nat.ble 16 (((((s224.take s224.length).drop 1).take (((s224.take s224.length).drop 1).length)).drop 8).length) && Nat.ble (((((s224.take s224.length).drop 1).take (((s224.take s224.length).drop 1).length)).drop 8).length) ((((s224.take s224.length).drop 1).take (((s224.take s224.length).drop 1).length)).drop 8).length) (Za N (Q4 N n) N ((((((s224.take s224.length).drop 1).take (((s224.take s224.length).drop 1).length)).drop 8).take (((((s224.take s224.length).drop 1).take (((s224.take s224.length).drop 1).length)).drop 8).length)).drop 16)) none)
  (Q4 N n ((((s224.take s224.length).drop 1).take (((s224.take s224.length).drop 1).length)).drop 8))) none)
  (Q4 N n ((((s224.take s224.length).drop 1).take (((s224.take s224.length).drop 1).length)).drop 8))) none)
  (Q4 N n ((s224.take s224.length).drop 1)))
  (Q4 N n ((s224.take s224.length).drop 1))) none)
  ((idx gtab0 (b226.toNat : Int)).bind fun y287 =>
  (idx gtab1 (Q2n .u8 y287 4)).bind fun y289 =>
  cond (Q8 .eql (IntKind.wrap .i64 (Gs .u8 y287 7)) 2)
  (cond (Q8 .lss (s224.length : Int) 2)
  (some false)
  ((idx s224 1).bind fun b293 =>
  cond (Q8 .lss (b293.toNat : Int) y289.1)
  (some false)
  ((idx s224 1).bind fun b296 =>
  cond (Q8 .lss y289.2 (b296.toNat : Int))
  (some false)
  (cond (Nat.ble 2 s224.length && Nat.ble s224.length s224.length) (Q4 N n ((s224.take s224.length).drop 2)) none))))
  (cond (Q8 .eql (IntKind.wrap .i64 (Gs .u8 y287 7)) 3)
  (cond (Q8 .lss (s224.length : Int) 3)
  (some false)
  ((idx s224 1).bind fun b302 =>
  cond (Q8 .lss (b302.toNat : Int) y289.1)
  (some false)
  ((idx s224 1).bind fun b305 =>
  cond (Q8 .lss y289.2 (b305.toNat : Int))
  (some false)
  ((idx s224 2).bind fun b308 =>
  cond (Q8 .lss (b308.toNat : Int) 128)
  (some false)
  ((idx s224 2).bind fun b311 =>
  cond (Q8 .lss 191 (b311.toNat : Int))
  (some false)
  (cond (Nat.ble 3 s224.length && Nat.ble s224.length s224.length) (Q4 N n ((s224.take s224.length).drop 3)) none))))))
  (cond (Q8 .eql (IntKind.wrap .i64 (Gs .u8 y287 7)) 4)
  (cond (Q8 .lss (s224.length : Int) 4)
  (some false)
  ((idx s224 1).bind fun b317 =>
  cond (Q8 .lss (b317.toNat : Int) y289.1)
  (some false)
  ((idx s224 1).bind fun b320 =>
  cond (Q8 .lss y289.2 (b320.toNat : Int))
  (some false)
  ((idx s224 2).bind fun b323 =>
  cond (Q8 .lss (b323.toNat : Int) 128)
  (some false)
  ((idx s224 2).bind fun b326 =>
  cond (Q8 .lss 191 (b326.toNat : Int))
  (some false)
  ((idx s224 3).bind fun b329 =>
  cond (Q8 .lss (b329.toNat : Int) 128)
  (some false)
  ((idx s224 3).bind fun b332 =>
  cond (Q8 .lss 191 (b332.toNat : Int))
  (some false)
  (cond (Nat.ble 4 s224.length && Nat.ble s224.length s224.length) (Q4 N n ((s224.take s224.length).drop 4)) none))))))))
  (some false)))))
  (some true)
def Xy (N : Nat) (s_0 : List UInt8) : Option (Bool) :=
 Q4 N N s_0
theorem Gr {N} {s_0} {r} (h : Xy N s_0 = some r) : Zo Tryz.prog G1 132 [.str s_0] (.bool r) := by
 refine Q3 Qw9 ?_
 unfold Xy at h
 refine lpC (τ := (List UInt8)) (fun s224 => (iS s224 :: a16 (a16 (a16 (a16 (a16 (a16 (a16 (a16 (a16 (a16 (a8 ([]))))))))))) : List AV)) (fun _ => ([] : List AObj)) (fun n0 s224 => Q4 N n0 s224) (s_0) h (fun i => i) ⟨(rE rfl <| rX <| rX <| rX <| rX <| rX <| rX <| rX <| rX <| rX <| rX <| rX <| rX <| rX <| rX <| rX <| rX <| rX <| rX <| rX <| rX <| rX <| rN), (hN), rfl, rfl, (roN)⟩ fun n0 s224 h => ?_
 simp only [Q4] at h
 apply iU h <;> intro h
 ·refine xB h fun b226 h => ?_
  apply iU h <;> intro h
  ·refine kU h fun h => ?_
   apply iU h <;> intro h
   ·refine cP h Qv p1 fun v231 h => ?_
    apply iU h <;> intro h
    ·refine kU h fun h => ?_
     refine Qx ?_
     apply iU h <;> intro h
     ·refine cD h Qv p1 fun v236 h => ?_
      refine kU h fun h => ?_
      refine cD h Qv p1 fun v239 h => ?_
      apply iU h <;> intro h
      ·refine kU h fun h => ?_
       refine lpC (τ := (List UInt8)) (fun s272 => (iS s272 :: a16 (a16 (a16 (a16 (a16 (a16 (a16 (a16 (a16 (a16 (a8 ([]))))))))))) : List AV)) (fun _ => ([] : List AObj)) (fun n1 s272 => Za N (Q4 N n0) n1 s272) (((((((s224.take s224.length).drop 1).take (((s224.take s224.length).drop 1).length)).drop 8).take (((((s224.take s224.length).drop 1).take (((s224.take s224.length).drop 1).length)).drop 8).length)).drop 16)) h (fun i => i) ⟨(rE rfl <| rX <| rX <| rX <| rX <| rX <| rX <| rX <| rX <| rX <| rX <| rX <| rX <| rX <| rX <| rX <| rX <| rX <| rX <| rX <| rX <| rX <| rN), (hN), rfl, rfl, (roN)⟩ fun n1 s272 h => ?_
       simp only [Za] at h
       refine Qx ?_
       apply iU h <;> intro h
       ·refine cD h Qv p1 fun v274 h => ?_
        refine kU h fun h => ?_
        refine cD h Qv p1 fun v277 h => ?_
        refine kU h fun h => ?_
        refine cD h Qv p1 fun v280 h => ?_
        refine kU h fun h => ?_
        refine cD h Qv p1 fun v283 h => ?_
        apply iU h <;> intro h
        ·refine kU h fun h => ?_
         show Exists _
         exact ⟨(n1, ((s272.take s272.length).drop 32)), h, Nat.lt_succ_self _, (fun i => i), ⟨(rE rfl <| rX <| rX <| rX <| rX <| rX <| rX <| rX <| rX <| rX <| rX <| rX <| rX <| rX <| rX <| rX <| rX <| rX <| rX <| rX <| rX <| rX <| rN), (hN), rfl, rfl, (roN)⟩⟩
        ·show Exists _
         exact ⟨(n0, s272), h, Nat.lt_succ_self _, (fun i => i), ⟨(rE rfl <| rX <| rX <| rX <| rX <| rX <| rX <| rX <| rX <| rX <| rX <| rX <| rX <| rX <| rX <| rX <| rX <| rX <| rX <| rX <| rX <| rX <| rN), (hN), rfl, rfl, (roN)⟩⟩
       ·show Exists _
        exact ⟨(n0, s272), h, Nat.lt_succ_self _, (fun i => i), ⟨(rE rfl <| rX <| rX <| rX <| rX <| rX <| rX <| rX <| rX <| rX <| rX <| rX <| rX <| rX <| rX <| rX <| rX <| rX <| rX <| rX <| rX <| rX <| rN), (hN), rfl, rfl, (roN)⟩⟩
      ·show Exists _
       exact ⟨(n0, ((((s224.take s224.length).drop 1).take (((s224.take s224.length).drop 1).length)).drop 8)), h, Nat.lt_succ_self _, (fun i => i), ⟨(rE rfl <| rX <| rX <| rX <| rX <| rX <| rX <| rX <| rX <| rX <| rX <| rX <| rX <| rX <| rX <| rX <| rX <| rX <| rX <| rX <| rX <| rX <| rN), (hN), rfl, rfl, (roN)⟩⟩
     ·show Exists _
      exact ⟨(n0, ((((s224.take s224.length).drop 1).take (((s224.take s224.length).drop 1).length)).drop 8)), h, Nat.lt_succ_self _, (fun i => i), ⟨(rE rfl <| rX <| rX <| rX <| rX <| rX <| rX <| rX <| rX <| rX <| rX <| rX <| rX <| rX <| rX <| rX <| rX <| rX <| rX <| rX <| rX <| rX <| rN), (hN), rfl, rfl, (roN)⟩⟩
    ·show Exists _
     exact ⟨(n0, ((s224.take s224.length).drop 1)), h, Nat.lt_succ_self _, (fun i => i), ⟨(rE rfl <| rX <| rX <| rX <| rX <| rX <| rX <| rX <| rX <| rX <| rX <| rX <| rX <| rX <| rX <| rX <| rX <| rX <| rX <| rX <| rX <| rX <| rN), (hN), rfl, rfl, (roN)⟩⟩
   ·show Exists _
    exact ⟨(n0, ((s224.take s224.length).drop 1)), h, Nat.lt_succ_self _, (fun i => i), ⟨(rE rfl <| rX <| rX <| rX <| rX <| rX <| rX <| rX <| rX <| rX <| rX <| rX <| rX <| rX <| rX <| rX <| rX <| rX <| rX <| rX <| rX <| rX <| rN), (hN), rfl, rfl, (roN)⟩⟩
  ·obtain ⟨y287, hy288, h⟩ := Q6z h
   refine Q7c (Qc4 hy288 Qln) ?_
   refine Qk0 (c := (cI .u8)) (e := 1) (fun _ => rfl) Qo3 hy288 (off := 0) (by decide) (by first | omega | (simp only [Gs, orI, Qst, Qci, Q0z, Q2n]; omega)) ?_
   obtain ⟨y289, hy290, h⟩ := Q6z h
   refine Q7c (Qc4 hy290 Qli) ?_
   refine Qk0 (c := cUU) (e := 2) (fun _ => rfl) Qoi hy290 (off := 0) (by decide) (by first | omega | (simp only [Gs, orI, Qst, Qci, Q0z, Q2n]; omega)) ?_
   apply iU h <;> intro h
   ·refine Qx ?_
    apply iU h <;> intro h
    ·cases h; exact (.p _)
    ·refine xB h fun b293 h => ?_
     apply iU h <;> intro h
     ·cases h; exact (.p _)
     ·refine xB h fun b296 h => ?_
      apply iU h <;> intro h
      ·cases h; exact (.p _)
      ·refine kU h fun h => ?_
       show Exists _
       exact ⟨(n0, ((s224.take s224.length).drop 2)), h, Nat.lt_succ_self _, (fun i => i), ⟨(rE rfl <| rX <| rX <| rX <| rX <| rX <| rX <| rX <| rX <| rX <| rX <| rX <| rX <| rX <| rX <| rX <| rX <| rX <| rX <| rX <| rX <| rX <| rN), (hN), rfl, rfl, (roN)⟩⟩
   ·apply iU h <;> intro h
    ·refine Qx ?_
     apply iU h <;> intro h
     ·cases h; exact (.p _)
     ·refine xB h fun b302 h => ?_
      apply iU h <;> intro h
      ·cases h; exact (.p _)
      ·refine xB h fun b305 h => ?_
       apply iU h <;> intro h
       ·cases h; exact (.p _)
       ·refine xB h fun b308 h => ?_
        apply iU h <;> intro h
        ·cases h; exact (.p _)
        ·refine xB h fun b311 h => ?_
         apply iU h <;> intro h
         ·cases h; exact (.p _)
         ·refine kU h fun h => ?_
          show Exists _
          exact ⟨(n0, ((s224.take s224.length).drop 3)), h, Nat.lt_succ_self _, (fun i => i), ⟨(rE rfl <| rX <| rX <| rX <| rX <| rX <| rX <| rX <| rX <| rX <| rX <| rX <| rX <| rX <| rX <| rX <| rX <| rX <| rX <| rX <| rX <| rX <| rN), (hN), rfl, rfl, (roN)⟩⟩
    ·apply iU h <;> intro h
     ·refine Qx ?_
      apply iU h <;> intro h
      ·cases h; exact (.p _)
      ·refine xB h fun b317 h => ?_
       apply iU h <;> intro h
       ·cases h; exact (.p _)
       ·refine xB h fun b320 h => ?_
        apply iU h <;> intro h
        ·cases h; exact (.p _)
        ·refine xB h fun b323 h => ?_
         apply iU h <;> intro h
         ·cases h; exact (.p _)
         ·refine xB h fun b326 h => ?_
          apply iU h <;> intro h
          ·cases h; exact (.p _)
          ·refine xB h fun b329 h => ?_
           apply iU h <;> intro h
           ·cases h; exact (.p _)
           ·refine xB h fun b332 h => ?_
            apply iU h <;> intro h
            ·cases h; exact (.p _)
            ·refine kU h fun h => ?_
             show Exists _
             exact ⟨(n0, ((s224.take s224.length).drop 4)), h, Nat.lt_succ_self _, (fun i => i), ⟨(rE rfl <| rX <| rX <| rX <| rX <| rX <| rX <| rX <| rX <| rX <| rX <| rX <| rX <| rX <| rX <| rX <| rX <| rX <| rX <| rX <| rX <| rX <| rN), (hN), rfl, rfl, (roN)⟩⟩
     ·cases h; exact (.p _)
 ·cases h; exact (.p _)
def Ve (N : Nat) (v : Q0) : Nat → Int → Option (Int)
 | 0, _ => none
 | n + 1, s15 =>
  cond (Q8 .lss s15 (v.Text.length : Int))
  ((idx v.Text s15).bind fun b17 =>
  cond (Q8 .geq (b17.toNat : Int) 128)
  (some 6)
  (Ve N v n (IntKind.wrap .i64 (s15 + 1))))
  (some 0)
def Xm (N : Nat) (v : Q0) : Option (Int) :=
 cond (Q8 .eql v.Kind 20)
 ((Xy N v.Text).bind fun v2 =>
 cond (!v2)
 (some 6)
 (some 0))
 (cond (Q8 .eql v.Kind 21)
 (Ve N v N 0)
 (some 0))
theorem Vc {N} {v} {r} (h : Xm N v = some r) : Zo Tryz.prog G1 113 [.agg (Q0.cells v)] (.int .i64 r) := by
 refine Q3 Qvh ?_
 unfold Xm at h
 apply iU h <;> intro h
 ·refine cP h Gr p1 fun v2 h => ?_
  apply iU h <;> intro h
  ·cases h; exact (.p _)
  ·cases h; exact (.p _)
 ·apply iU h <;> intro h
  ·refine lpC (τ := Int) (fun s15 => (.any :: .ptr 0 0 :: a8 (a4 (a2 (iI (v.Text.length : Int) :: iI s15 :: a8 ([])))) : List AV)) (fun _ => (.cells (iI v.Kind :: iW v.N' :: iS v.Text :: .p (.slice 4 (Q0.rows v.Items)) :: []) :: [] : List AObj)) (fun n0 s15 => Ve N v n0 s15) (0) h (fun i => i) ⟨(rA <| rE rfl <| rX <| rV <| rW <| rE rfl <| rE rfl <| rX <| rN), (hE rfl <| hN), rfl, rfl, (roE rfl <| roN)⟩ fun n0 s15 h => ?_
   simp only [Ve] at h
   apply iU h <;> intro h
   ·refine xB h fun b17 h => ?_
    apply iU h <;> intro h
    ·cases h; exact (.p _)
    ·show Exists _
     exact ⟨(n0, (IntKind.wrap .i64 (s15 + 1))), h, Nat.lt_succ_self _, (fun i => i), ⟨(rA <| rE rfl <| rX <| rV <| rW <| rE rfl <| rE rfl <| rX <| rN), (hE rfl <| hN), rfl, rfl, (roE rfl <| roN)⟩⟩
   ·cases h; exact (.p _)
  ·cases h; exact (.p _)
def Uc (_N : Nat) (kind : Int) : Option (Int × Bool) :=
 cond (Q8 .eql kind 2)
 (some (1, false))
 (cond (Q8 .eql kind 3)
 (some (8, false))
 (cond (Q8 .eql kind 4)
 (some (16, false))
 (cond (Q8 .eql kind 5)
 (some (32, false))
 (cond (Q8 .eql kind 11)
 (some (32, false))
 (cond (Q8 .eql kind 13)
 (some (32, false))
 (cond (Q8 .eql kind 16)
 (some (32, false))
 (cond (Q8 .eql kind 6)
 (some (64, false))
 (cond (Q8 .eql kind 12)
 (some (64, false))
 (cond (Q8 .eql kind 14)
 (some (64, false))
 (cond (Q8 .eql kind 7)
 (some (8, true))
 (cond (Q8 .eql kind 8)
 (some (16, true))
 (cond (Q8 .eql kind 9)
 (some (32, true))
 (cond (Q8 .eql kind 10)
 (some (64, true))
 (cond (Q8 .eql kind 17)
 (some (64, true))
 (some (0, false))))))))))))))))
theorem Q1r {N} {kind} {r} (h : Uc N kind = some r) : Zo Tryz.prog G1 109 [.int .i64 kind] (.tuple [.int .i64 r.1, .bool r.2]) := by
 refine Q3 Qwo ?_
 unfold Uc at h
 apply iU h <;> intro h
 ·obtain rfl := Zn h; exact u2
 ·apply iU h <;> intro h
  ·obtain rfl := Zn h; exact u2
  ·apply iU h <;> intro h
   ·obtain rfl := Zn h; exact u2
   ·refine ifO h (fun hc4 h => ?_) (fun hc4 h => ?_)
    ·refine ifT hc4 ?_
     obtain rfl := Zn h; exact u2
    ·refine ifO h (fun hc5 h => ?_) (fun hc5 h => ?_)
     ·refine ifT hc5 ?_
      obtain rfl := Zn h; exact u2
     ·refine ifO h (fun hc6 h => ?_) (fun hc6 h => ?_)
      ·refine ifT hc6 ?_
       obtain rfl := Zn h; exact u2
      ·apply iU h <;> intro h
       ·obtain rfl := Zn h; exact u2
       ·refine ifO h (fun hc8 h => ?_) (fun hc8 h => ?_)
        ·refine ifT hc8 ?_
         obtain rfl := Zn h; exact u2
        ·refine ifO h (fun hc9 h => ?_) (fun hc9 h => ?_)
         ·refine ifT hc9 ?_
          obtain rfl := Zn h; exact u2
         ·apply iU h <;> intro h
          ·obtain rfl := Zn h; exact u2
          ·apply iU h <;> intro h
           ·obtain rfl := Zn h; exact u2
           ·apply iU h <;> intro h
            ·obtain rfl := Zn h; exact u2
            ·apply iU h <;> intro h
             ·obtain rfl := Zn h; exact u2
             ·refine ifO h (fun hc14 h => ?_) (fun hc14 h => ?_)
              ·refine ifT hc14 ?_
               obtain rfl := Zn h; exact u2
              ·apply iU h <;> intro h
               ·obtain rfl := Zn h; exact u2
               ·obtain rfl := Zn h; exact u2
def Wt (_N : Nat) (n_0 : Int) (bits : Int) (signed : Bool) : Option (Bool) :=
 cond signed
 (cond (decide (0 ≤ (IntKind.wrap .i64 (bits - 1)))) (cond (Q8 .geq (IntKind.wrap .i64 n_0) (Q0z .i64 (-1) (IntKind.wrap .i64 (bits - 1))))
 (some (Q8 .leq (IntKind.wrap .i64 n_0) (IntKind.wrap .i64 (0 - (IntKind.wrap .i64 ((Q0z .i64 (-1) (IntKind.wrap .i64 (bits - 1))) + 1))))))
 (some false)) none)
 (cond (Q8 .eql bits 64)
 (some true)
 (cond (decide (0 ≤ bits)) (some (Q8 .eql (Q2n .u64 n_0 bits) 0)) none))
theorem Gi {N} {n_0} {bits} {signed} {r} (h : Wt N n_0 bits signed = some r) : Zo Tryz.prog G1 110 [.int .u64 n_0, .int .i64 bits, .bool signed] (.bool r) := by
 refine Q3 Qvl ?_
 unfold Wt at h
 apply iU h <;> intro h
 ·refine kU h fun h => ?_
  apply iU h <;> intro h
  ·cases h; exact (.p _)
  ·cases h; exact (.p _)
 ·apply iU h <;> intro h
  ·cases h; exact (.p _)
  ·refine kU h fun h => ?_
   cases h; exact (.p _)
def Wp (_N : Nat) (r_0 : Int) : Option (Bool) :=
 cond (Q8 .leq 0 r_0)
 (cond (Q8 .lss r_0 55296)
 (some true)
 (cond (Q8 .lss 57343 r_0)
 (cond (Q8 .leq r_0 1114111)
 (some true)
 (some false))
 (some false)))
 (cond (Q8 .lss 57343 r_0)
 (cond (Q8 .leq r_0 1114111)
 (some true)
 (some false))
 (some false))
theorem Q0d {N} {r_0} {r} (h : Wp N r_0 = some r) : Zo Tryz.prog G1 131 [.int .i32 r_0] (.bool r) := by
 refine Q3 Qvx ?_
 unfold Wp at h
 apply iU h <;> intro h
 ·apply iU h <;> intro h
  ·cases h; exact (.p _)
  ·apply iU h <;> intro h
   ·apply iU h <;> intro h
    ·cases h; exact (.p _)
    ·cases h; exact (.p _)
   ·cases h; exact (.p _)
 ·apply iU h <;> intro h
  ·apply iU h <;> intro h
   ·cases h; exact (.p _)
   ·cases h; exact (.p _)
  ·cases h; exact (.p _)
def Vf (N : Nat) (n_0 : Int) : Option (Bool) :=
 cond (Q8 .leq n_0 1114111)
 ((Wp N (IntKind.wrap .i32 n_0)).bind fun v2 =>
 some v2)
 (some false)
theorem Q35 {N} {n_0} {r} (h : Vf N n_0 = some r) : Zo Tryz.prog G1 111 [.int .u64 n_0] (.bool r) := by
 refine Q3 Qwr ?_
 unfold Vf at h
 apply iU h <;> intro h
 ·refine cP h Q0d p1 fun v2 h => ?_
  cases h; exact (.p _)
 ·cases h; exact (.p _)
def Vi (N : Nat) (v : Q0) : Option (Int) :=
 cond (Q8 .lss v.Kind 1)
 (some 8)
 (cond (Q8 .gtr v.Kind 21)
 (some 8)
 ((Uc N v.Kind).bind fun v3 =>
 (Wt N v.N' v3.1 v3.2).bind fun v5 =>
 cond (!v5)
 (some 2)
 (cond (Q8 .eql v.Kind 16)
 ((Vf N v.N').bind fun v9 =>
 cond (!v9)
 (some 2)
 (cond (Q8 .neq ((Q0.rows v.Items).length : Int) 0)
 (some 2)
 ((Vd N v.Kind).bind fun v13 =>
 cond (!v13)
 (cond (Q6m .neq v.Text [])
 (some 2)
 (some 0))
 (cond (Q8 .eql v.Kind 15)
 (cond (Q8 .neq (v.Text.length : Int) 16)
 (some 2)
 (cond (Q8 .gtr (v.Text.length : Int) 1048576)
 (some 4)
 ((Xm N v).bind fun v20 =>
 some v20)))
 (cond (Q8 .eql v.Kind 18)
 (cond (Q8 .neq (v.Text.length : Int) 16)
 (some 2)
 (cond (Q8 .gtr (v.Text.length : Int) 1048576)
 (some 4)
 ((Xm N v).bind fun v25 =>
 some v25)))
 (cond (Q8 .gtr (v.Text.length : Int) 1048576)
 (some 4)
 ((Xm N v).bind fun v28 =>
 some v28)))))))
 (cond (Q8 .neq ((Q0.rows v.Items).length : Int) 0)
 (some 2)
 ((Vd N v.Kind).bind fun v31 =>
 cond (!v31)
 (cond (Q6m .neq v.Text [])
 (some 2)
 (some 0))
 (cond (Q8 .eql v.Kind 15)
 (cond (Q8 .neq (v.Text.length : Int) 16)
 (some 2)
 (cond (Q8 .gtr (v.Text.length : Int) 1048576)
 (some 4)
 ((Xm N v).bind fun v38 =>
 some v38)))
 (cond (Q8 .eql v.Kind 18)
 (cond (Q8 .neq (v.Text.length : Int) 16)
 (some 2)
 (cond (Q8 .gtr (v.Text.length : Int) 1048576)
 (some 4)
 ((Xm N v).bind fun v43 =>
 some v43)))
 (cond (Q8 .gtr (v.Text.length : Int) 1048576)
 (some 4)
 ((Xm N v).bind fun v46 =>
 some v46)))))))))
theorem Jv {N} {v} {r} (h : Vi N v = some r) : Zo Tryz.prog G1 89 [.agg (Q0.cells v)] (.int .i64 r) := by
 refine Q3 k89 ?_
 unfold Vi at h
 apply iU h <;> intro h
 ·cases h; exact (.p _)
 ·apply iU h <;> intro h
  ·cases h; exact (.p _)
  ·refine cP h Q1r p1 fun v3 h => ?_
   refine cP h Gi p3 fun v5 h => ?_
   apply iU h <;> intro h
   ·cases h; exact (.p _)
   ·apply iU h <;> intro h
    ·refine cP h Q35 p1 fun v9 h => ?_
     apply iU h <;> intro h
     ·cases h; exact (.p _)
     ·apply iU h <;> intro h
      ·cases h; exact (.p _)
      ·refine cP h Q00 p1 fun v13 h => ?_
       apply iU h <;> intro h
       ·apply iU h <;> intro h
        ·cases h; exact (.p _)
        ·cases h; exact (.p _)
       ·apply iU h <;> intro h
        ·apply iU h <;> intro h
         ·cases h; exact (.p _)
         ·apply iU h <;> intro h
          ·cases h; exact (.p _)
          ·refine cP h Vc (.cons q4 .nil) fun v20 h => ?_
           cases h; exact (.p _)
        ·apply iU h <;> intro h
         ·apply iU h <;> intro h
          ·cases h; exact (.p _)
          ·apply iU h <;> intro h
           ·cases h; exact (.p _)
           ·refine cP h Vc (.cons q4 .nil) fun v25 h => ?_
            cases h; exact (.p _)
         ·apply iU h <;> intro h
          ·cases h; exact (.p _)
          ·refine cP h Vc (.cons q4 .nil) fun v28 h => ?_
           cases h; exact (.p _)
    ·apply iU h <;> intro h
     ·cases h; exact (.p _)
     ·refine cP h Q00 p1 fun v31 h => ?_
      apply iU h <;> intro h
      ·apply iU h <;> intro h
       ·cases h; exact (.p _)
       ·cases h; exact (.p _)
      ·apply iU h <;> intro h
       ·apply iU h <;> intro h
        ·cases h; exact (.p _)
        ·apply iU h <;> intro h
         ·cases h; exact (.p _)
         ·refine cP h Vc (.cons q4 .nil) fun v38 h => ?_
          cases h; exact (.p _)
       ·apply iU h <;> intro h
        ·apply iU h <;> intro h
         ·cases h; exact (.p _)
         ·apply iU h <;> intro h
          ·cases h; exact (.p _)
          ·refine cP h Vc (.cons q4 .nil) fun v43 h => ?_
           cases h; exact (.p _)
        ·apply iU h <;> intro h
         ·cases h; exact (.p _)
         ·refine cP h Vc (.cons q4 .nil) fun v46 h => ?_
          cases h; exact (.p _)
def Vx (_N : Nat) (v : Q0) : Option (Bool) :=
 cond (Q6m .neq v.Text [])
 (some false)
 (cond (Q8 .eql v.Kind 24)
 (cond (Q8 .geq v.N' 1)
 (some (Q8 .leq v.N' 24))
 (some false))
 (cond (Q8 .neq v.N' 0)
 (some false)
 (cond (Q8 .eql v.Kind 25)
 (some (Q8 .eql ((Q0.rows v.Items).length : Int) 2))
 (cond (Q8 .eql v.Kind 23)
 (some (Q8 .eql ((((Q0.rows v.Items).length : Int) : Int).tmod 2) 0))
 (some true)))))
theorem Q4g {N} {v} {r} (h : Vx N v = some r) : Zo Tryz.prog G1 90 [.agg (Q0.cells v)] (.bool r) := by
 refine Q3 k90 ?_
 unfold Vx at h
 apply iU h <;> intro h
 ·cases h; exact (.p _)
 ·apply iU h <;> intro h
  ·apply iU h <;> intro h
   ·cases h; exact (.p _)
   ·cases h; exact (.p _)
  ·apply iU h <;> intro h
   ·cases h; exact (.p _)
   ·apply iU h <;> intro h
    ·cases h; exact (.p _)
    ·apply iU h <;> intro h
     ·cases h; exact (.p _)
     ·cases h; exact (.p _)
def Z3 (_N : Nat) (v : Q0) : Option (Bool) :=
 cond (Q8 .eql v.Kind 11)
 (cond (Q8 .eql (Gs .u64 (Q2n .u64 v.N' 23) 255) 255)
 (some (Q8 .neq (Q0z .u64 v.N' 41) 0))
 (some false))
 (cond (Q8 .eql v.Kind 12)
 (cond (Q8 .eql (Gs .u64 (Q2n .u64 v.N' 52) 2047) 2047)
 (some (Q8 .neq (Q0z .u64 v.N' 12) 0))
 (some false))
 (some false))
theorem Gb {N} {v} {r} (h : Z3 N v = some r) : Zo Tryz.prog G1 133 [.agg (Q0.cells v)] (.bool r) := by
 refine Q3 Qvc ?_
 unfold Z3 at h
 apply iU h <;> intro h
 ·apply iU h <;> intro h
  ·cases h; exact (.p _)
  ·cases h; exact (.p _)
 ·apply iU h <;> intro h
  ·apply iU h <;> intro h
   ·cases h; exact (.p _)
   ·cases h; exact (.p _)
  ·cases h; exact (.p _)
def W6 (rv1 : Q0 → Q0 → Option (Bool)) (N : Nat) (a : Q0) (b : Q0) : Nat → Int → Option (Bool)
 | 0, _ => none
 | n + 1, s28 =>
  cond (Q8 .lss s28 ((Q0.rows a.Items).length : Int))
  ((idx a.Items s28).bind fun y30 =>
  (idx b.Items s28).bind fun y32 =>
  (rv1 y30 y32).bind fun v34 =>
  cond (!v34)
  (some false)
  (W6 rv1 N a b n (IntKind.wrap .i64 (s28 + 1))))
  (some true)
def Wc (rv1 : Q0 → Q0 → Option (Bool)) (N : Nat) (a : Q0) (b : Q0) : Nat → Int → Option (Bool)
 | 0, _ => none
 | n + 1, s54 =>
  cond (Q8 .lss s54 ((Q0.rows a.Items).length : Int))
  ((idx a.Items s54).bind fun y56 =>
  (idx b.Items s54).bind fun y58 =>
  (rv1 y56 y58).bind fun v60 =>
  cond (!v60)
  (some false)
  (Wc rv1 N a b n (IntKind.wrap .i64 (s54 + 1))))
  (some true)
def Jd (rv1 : Q0 → Q0 → Option (Bool)) (N : Nat) (a : Q0) (b : Q0) : Option (Bool) :=
 cond (Q8 .neq a.Kind b.Kind)
 (some false)
 (cond (Q6m .neq a.Text b.Text)
 (some false)
 (cond (Q8 .neq ((Q0.rows a.Items).length : Int) ((Q0.rows b.Items).length : Int))
 (some false)
 (cond (Q8 .neq a.N' b.N')
 ((Z3 N a).bind fun v5 =>
 cond v5
 ((Z3 N b).bind fun v8 =>
 cond (!v8)
 (some false)
 (W6 rv1 N a b N 0))
 (some false))
 (Wc rv1 N a b N 0))))
theorem Q5f {rv1 : Q0 → Q0 → Option (Bool)} (hv3 : ∀ {a} {b} {r}, rv1 a b = some r → Zo Tryz.prog G1 114 [.agg (Q0.cells a), .agg (Q0.cells b)] (.bool r)) {N} {a} {b} {r} (h : Jd rv1 N a b = some r) : Zo Tryz.prog G1 114 [.agg (Q0.cells a), .agg (Q0.cells b)] (.bool r) := by
 refine Q3 Qwn ?_
 unfold Jd at h
 apply iU h <;> intro h
 ·cases h; exact (.p _)
 ·apply iU h <;> intro h
  ·cases h; exact (.p _)
  ·apply iU h <;> intro h
   ·cases h; exact (.p _)
   ·apply iU h <;> intro h
    ·refine cP h Gb (.cons q4 .nil) fun v5 h => ?_
     apply iU h <;> intro h
     ·refine cP h Gb (.cons q4 .nil) fun v8 h => ?_
      apply iU h <;> intro h
      ·cases h; exact (.p _)
      ·refine lpC (τ := Int) (fun s28 => (.any :: .any :: .ptr 0 0 :: .ptr 1 0 :: a16 (a16 (a4 (a2 (.any :: iI ((Q0.rows a.Items).length : Int) :: iI s28 :: a8 (a4 (a2 (.any :: []))))))) : List AV)) (fun _ => (.cells (iI a.Kind :: iW a.N' :: iS a.Text :: .p (.slice 4 (Q0.rows a.Items)) :: []) :: .cells (iI b.Kind :: iW b.N' :: iS b.Text :: .p (.slice 4 (Q0.rows b.Items)) :: []) :: [] : List AObj)) (fun n0 s28 => W6 rv1 N a b n0 s28) (0) h (fun i => i) ⟨(rW <| rE rfl <| rE rfl <| rX <| rX <| rX <| rX <| rV <| rW <| rA <| rE rfl <| rE rfl <| rX <| rV <| rW <| rA <| rN), (hE rfl <| hE rfl <| hN), rfl, rfl, (roE rfl <| roE rfl <| roN)⟩ fun n0 s28 h => ?_
       simp only [W6] at h
       apply iU h <;> intro h
       ·refine Qx ?_
        refine Q0.xR h fun y30 h => ?_
        refine Q0.xR h fun y32 h => ?_
        refine cD h hv3 (.cons q4 (.cons q4 .nil)) fun v34 h => ?_
        apply iU h <;> intro h
        ·cases h; exact (.p _)
        ·show Exists _
         exact ⟨(n0, (IntKind.wrap .i64 (s28 + 1))), h, Nat.lt_succ_self _, (fun i => i), ⟨(rW <| rE rfl <| rE rfl <| rX <| rX <| rX <| rX <| rV <| rW <| rA <| rE rfl <| rE rfl <| rX <| rV <| rW <| rA <| rN), (hE rfl <| hE rfl <| hN), rfl, rfl, (roE rfl <| roE rfl <| roN)⟩⟩
       ·cases h; exact (.p _)
     ·cases h; exact (.p _)
    ·refine lpC (τ := Int) (fun s54 => (.any :: .any :: .ptr 0 0 :: .ptr 1 0 :: a16 (a16 (a4 (a2 (.any :: iI ((Q0.rows a.Items).length : Int) :: iI s54 :: a8 (a4 (a2 (.any :: []))))))) : List AV)) (fun _ => (.cells (iI a.Kind :: iW a.N' :: iS a.Text :: .p (.slice 4 (Q0.rows a.Items)) :: []) :: .cells (iI b.Kind :: iW b.N' :: iS b.Text :: .p (.slice 4 (Q0.rows b.Items)) :: []) :: [] : List AObj)) (fun n1 s54 => Wc rv1 N a b n1 s54) (0) h (fun i => i) ⟨(rW <| rE rfl <| rE rfl <| rX <| rX <| rX <| rX <| rV <| rW <| rA <| rE rfl <| rE rfl <| rX <| rV <| rW <| rA <| rN), (hE rfl <| hE rfl <| hN), rfl, rfl, (roE rfl <| roE rfl <| roN)⟩ fun n1 s54 h => ?_
     simp only [Wc] at h
     apply iU h <;> intro h
     ·refine Qx ?_
      refine Q0.xR h fun y56 h => ?_
      refine Q0.xR h fun y58 h => ?_
      refine cD h hv3 (.cons q4 (.cons q4 .nil)) fun v60 h => ?_
      apply iU h <;> intro h
      ·cases h; exact (.p _)
      ·show Exists _
       exact ⟨(n1, (IntKind.wrap .i64 (s54 + 1))), h, Nat.lt_succ_self _, (fun i => i), ⟨(rW <| rE rfl <| rE rfl <| rX <| rX <| rX <| rX <| rV <| rW <| rA <| rE rfl <| rE rfl <| rX <| rV <| rW <| rA <| rN), (hE rfl <| hE rfl <| hN), rfl, rfl, (roE rfl <| roE rfl <| roN)⟩⟩
     ·cases h; exact (.p _)
def Wy : Nat → Q0 → Q0 → Option (Bool)
 | 0 => fun _ _ => none
 | N + 1 => Jd (Wy N) N
theorem Q5e {N} {a} {b} {r} (h : Wy N a b = some r) : Zo Tryz.prog G1 114 [.agg (Q0.cells a), .agg (Q0.cells b)] (.bool r) := by
 induction N generalizing a b r with
 | zero => simp [Wy] at h
 | succ N ih => exact Q5f (fun h => ih h) h
def Wq (N : Nat) (k0 : Int → Option (Int)) (v : Q0) (i56 : Int) : Nat → Int → Option (Int)
 | 0, _ => none
 | n + 1, k75 =>
  cond (Q8 .lss k75 i56)
  ((idx v.Items i56).bind fun y77 =>
  (idx v.Items k75).bind fun y79 =>
  (Wy N y77 y79).bind fun v81 =>
  cond v81
  (some 16)
  (Wq N k0 v i56 n (IntKind.wrap .i64 (k75 + 2))))
  (k0 (IntKind.wrap .i64 (i56 + 2)))
def X0 (N : Nat) (v : Q0) : Nat → Int → Option (Int)
 | 0, _ => none
 | n + 1, i56 =>
  cond (Q8 .lss i56 ((Q0.rows v.Items).length : Int))
  (Wq N (X0 N v n) v i56 N 0)
  (some 0)
def Ur (N : Nat) (v : Q0) : Option (Int) :=
 cond (Q8 .neq v.Kind 23)
 (some 0)
 (X0 N v N 2)
theorem Q5r {N} {v} {r} (h : Ur N v = some r) : Zo Tryz.prog G1 91 [.agg (Q0.cells v)] (.int .i64 r) := by
 refine Q3 k91 ?_
 unfold Ur at h
 apply iU h <;> intro h
 ·cases h; exact (.p _)
 ·refine lpC (τ := Int) (fun i56 => (.any :: .ptr 0 0 :: .any :: iI i56 :: a16 (a8 (a2 (.any :: []))) : List AV)) (fun _ => (.cells (iI v.Kind :: iW v.N' :: iS v.Text :: .p (.slice 4 (Q0.rows v.Items)) :: []) :: [] : List AObj)) (fun n0 i56 => X0 N v n0 i56) (2) h (fun i => i) ⟨(rA <| rE rfl <| rA <| rE rfl <| rX <| rX <| rX <| rW <| rA <| rN), (hE rfl <| hN), rfl, rfl, (roE rfl <| roN)⟩ fun n0 i56 h => ?_
  simp only [X0] at h
  apply iU h <;> intro h
  ·refine lpC (τ := Int) (fun k75 => (.any :: .ptr 0 0 :: .any :: iI i56 :: iI k75 :: a16 (a8 (a2 ([]))) : List AV)) (fun _ => (.cells (iI v.Kind :: iW v.N' :: iS v.Text :: .p (.slice 4 (Q0.rows v.Items)) :: []) :: [] : List AObj)) (fun n1 k75 => Wq N (X0 N v n0) v i56 n1 k75) (0) h (fun i => i) ⟨(rA <| rE rfl <| rA <| rE rfl <| rE rfl <| rX <| rX <| rX <| rW <| rN), (hE rfl <| hN), rfl, rfl, (roE rfl <| roN)⟩ fun n1 k75 h => ?_
   simp only [Wq] at h
   apply iU h <;> intro h
   ·refine Qx ?_
    refine Q0.xR h fun y77 h => ?_
    refine Q0.xR h fun y79 h => ?_
    refine cD h Q5e (.cons q4 (.cons q4 .nil)) fun v81 h => ?_
    apply iU h <;> intro h
    ·cases h; exact (.p _)
    ·show Exists _
     exact ⟨(n1, (IntKind.wrap .i64 (k75 + 2))), h, Nat.lt_succ_self _, (fun i => i), ⟨(rA <| rE rfl <| rA <| rE rfl <| rE rfl <| rX <| rX <| rX <| rW <| rN), (hE rfl <| hN), rfl, rfl, (roE rfl <| roN)⟩⟩
   ·show Exists _
    exact ⟨(n0, (IntKind.wrap .i64 (i56 + 2))), h, Nat.lt_succ_self _, (fun i => i), ⟨(rA <| rE rfl <| rA <| rE rfl <| rX <| rX <| rX <| rW <| rA <| rN), (hE rfl <| hN), rfl, rfl, (roE rfl <| roN)⟩⟩
  ·cases h; exact (.p _)
def Yg (rw1 : Q0 → Int → Option (Int)) (N : Nat) (v : Q0) (most : Int) : Nat → Int → Option (Int)
 | 0, _ => none
 | n + 1, s34 =>
  cond (Q8 .lss s34 ((Q0.rows v.Items).length : Int))
  ((idx v.Items s34).bind fun y36 =>
  cond (Q8 .eql v.Kind 24)
  (cond (Q8 .neq (IntKind.wrap .u64 y36.Kind) v.N')
  (some 8)
  ((rw1 y36 (IntKind.wrap .i64 (most - 1))).bind fun v40 =>
  cond (Q8 .neq v40 0)
  (some v40)
  (Yg rw1 N v most n (IntKind.wrap .i64 (s34 + 1)))))
  ((rw1 y36 (IntKind.wrap .i64 (most - 1))).bind fun v43 =>
  cond (Q8 .neq v43 0)
  (some v43)
  (Yg rw1 N v most n (IntKind.wrap .i64 (s34 + 1)))))
  ((Ur N v).bind fun v46 =>
  some v46)
def Uh (rw1 : Q0 → Int → Option (Int)) (N : Nat) (v : Q0) (most : Int) : Option (Int) :=
 cond (Q8 .lss v.Kind 1)
 (some 8)
 (cond (Q8 .gtr v.Kind 25)
 (some 8)
 (cond (Q8 .leq v.Kind 21)
 ((Vi N v).bind fun v4 =>
 some v4)
 (cond (Q8 .eql most 0)
 (some 14)
 ((Vx N v).bind fun v7 =>
 cond (!v7)
 (some 2)
 (cond (Q8 .gtr ((Q0.rows v.Items).length : Int) 1000)
 (some 4)
 (Yg rw1 N v most N 0))))))
theorem Q3d {rw1 : Q0 → Int → Option (Int)} (hw3 : ∀ {v} {most} {r}, rw1 v most = some r → Qio Tryz.prog G1 88 [.agg (Q0.cells v), .int .i64 most] (.int .i64 r)) {N} {v} {most} {r} (h : Uh rw1 N v most = some r) : Qio Tryz.prog G1 88 [.agg (Q0.cells v), .int .i64 most] (.int .i64 r) := by
 refine Qip k88 ?_
 unfold Uh at h
 apply iU h <;> intro h
 ·obtain rfl := Zn h; exact ⟨_, rfl, (.p _)⟩
 ·apply iU h <;> intro h
  ·obtain rfl := Zn h; exact ⟨_, rfl, (.p _)⟩
  ·apply iU h <;> intro h
   ·refine cP h Jv (.cons q4 .nil) fun v4 h => ?_
    obtain rfl := Zn h; exact ⟨_, rfl, (.p _)⟩
   ·apply iU h <;> intro h
    ·obtain rfl := Zn h; exact ⟨_, rfl, (.p _)⟩
    ·refine cP h Q4g (.cons q4 .nil) fun v7 h => ?_
     apply iU h <;> intro h
     ·obtain rfl := Zn h; exact ⟨_, rfl, (.p _)⟩
     ·apply iU h <;> intro h
      ·obtain rfl := Zn h; exact ⟨_, rfl, (.p _)⟩
      ·refine lpC (τ := Int) (fun s34 => (.any :: iI most :: .ptr 0 0 :: .ptr 1 0 :: a16 (a16 (.any :: .p (.slice 4 (Q0.rows v.Items)) :: iI ((Q0.rows v.Items).length : Int) :: iI s34 :: a16 (a8 (.any :: [])))) : List AV)) (fun _ => (.cells (.func (.func 88) [] [.ptr 0 0] :: []) :: .cells (iI v.Kind :: iW v.N' :: iS v.Text :: .p (.slice 4 (Q0.rows v.Items)) :: []) :: [] : List AObj)) (fun n0 s34 => Yg rw1 N v most n0 s34) (0) h (fun i => i) ⟨(rA <| rE rfl <| rE rfl <| rE rfl <| rX <| rX <| rX <| rX <| rA <| rE rfl <| rE rfl <| rE rfl <| rX <| rX <| rX <| rA <| rN), (hE rfl <| hE rfl <| hN), rfl, rfl, (roE rfl <| roE rfl <| roN)⟩ fun n0 s34 h => ?_
       simp only [Yg] at h
       apply iU h <;> intro h
       ·refine Q0.xR h fun y36 h => ?_
        apply iU h <;> intro h
        ·apply iU h <;> intro h
         ·obtain rfl := Zn h; exact ⟨_, rfl, (.p _)⟩
         ·obtain ⟨v40, hv41, h⟩ := Q6z h
          refine Q9w (hw3 hv41) (.cons q4 p1) rfl rfl ?_
          apply iU h <;> intro h
          ·obtain rfl := Zn h; exact ⟨_, rfl, (.p _)⟩
          ·show Exists _
           exact ⟨(n0, (IntKind.wrap .i64 (s34 + 1))), h, Nat.lt_succ_self _, (fun i => i), ⟨(rA <| rE rfl <| rE rfl <| rE rfl <| rX <| rX <| rX <| rX <| rA <| rE rfl <| rE rfl <| rE rfl <| rX <| rX <| rX <| rA <| rN), (hE rfl <| hE rfl <| hN), rfl, rfl, (roE rfl <| roE rfl <| roN)⟩⟩
        ·obtain ⟨v43, hv44, h⟩ := Q6z h
         refine Q9w (hw3 hv44) (.cons q4 p1) rfl rfl ?_
         apply iU h <;> intro h
         ·obtain rfl := Zn h; exact ⟨_, rfl, (.p _)⟩
         ·show Exists _
          exact ⟨(n0, (IntKind.wrap .i64 (s34 + 1))), h, Nat.lt_succ_self _, (fun i => i), ⟨(rA <| rE rfl <| rE rfl <| rE rfl <| rX <| rX <| rX <| rX <| rA <| rE rfl <| rE rfl <| rE rfl <| rX <| rX <| rX <| rA <| rN), (hE rfl <| hE rfl <| hN), rfl, rfl, (roE rfl <| roE rfl <| roN)⟩⟩
       ·refine cP h Q5r (.cons q4 .nil) fun v46 h => ?_
        obtain rfl := Zn h; exact ⟨_, rfl, (.p _)⟩
def Xo : Nat → Q0 → Int → Option (Int)
 | 0 => fun _ _ => none
 | N + 1 => Uh (Xo N) N
theorem Q3u {N} {v} {most} {r} (h : Xo N v most = some r) : Qio Tryz.prog G1 88 [.agg (Q0.cells v), .int .i64 most] (.int .i64 r) := by
 induction N generalizing v most r with
 | zero => simp [Xo] at h
 | succ N ih => exact Q3d (fun h => ih h) h
def V2 (_N : Nat) (most : Int) : Option (Bool) :=
 cond (Q8 .geq most 0)
 (some (Q8 .leq most 32))
 (some false)
theorem Q2y {N} {most} {r} (h : V2 N most = some r) : Zo Tryz.prog G1 87 [.int .i64 most] (.bool r) := by
 refine Q3 k87 ?_
 unfold V2 at h
 apply iU h <;> intro h
 ·cases h; exact (.p _)
 ·cases h; exact (.p _)
def Wx (N : Nat) (v : Q0) (most : Int) : Option (Int) :=
 (V2 N most).bind fun v1 =>
 cond (!v1)
 (some 2)
 ((Xo N v most).bind fun v4 =>
 some v4)
theorem Ji {N} {v} {most} {r} (h : Wx N v most = some r) : Zo Tryz.prog G1 61 [.agg (Q0.cells v), .int .i64 most] (.int .i64 r) := by
 refine Q3 k61 ?_
 unfold Wx at h
 refine cP h Q2y p1 fun v1 h => ?_
 apply iU h <;> intro h
 ·cases h; exact (.p _)
 ·obtain ⟨v4, hv5, h⟩ := Q6z h
  refine Q9w (Q3u hv5) (.cons q4 p1) rfl rfl ?_
  cases h; exact (.p _)
def J9 (N : Nat) (c : Qk) (v : Q0) : Option (Bool) :=
 cond (Q8 .eql c.Code 65)
 (some (Q8 .eql v.N' 1))
 (cond c.Sized
 (cond (Q8 .eql c.Width 4)
 (some true)
 (some (Q8 .leq (v.Text.length : Int) 255)))
 (cond (Q8 .eql c.Width 0)
 (some (Q8 .eql v.N' 0))
 (cond (Q8 .eql c.Width 1)
 ((Uc N c.Kind).bind fun v6 =>
 (Wt N v.N' 8 v6.2).bind fun v8 =>
 some v8)
 (some true))))
theorem Q6x {N} {c} {v} {r} (h : J9 N c v = some r) : Zo Tryz.prog G1 155 [.agg (Qk.cells c), .agg (Q0.cells v)] (.bool r) := by
 refine Q3 Qvu ?_
 unfold J9 at h
 apply iU h <;> intro h
 ·cases h; exact (.p _)
 ·apply iU h <;> intro h
  ·apply iU h <;> intro h
   ·cases h; exact (.p _)
   ·cases h; exact (.p _)
  ·apply iU h <;> intro h
   ·cases h; exact (.p _)
   ·apply iU h <;> intro h
    ·refine cP h Q1r p1 fun v6 h => ?_
     refine cP h Gi p3 fun v8 h => ?_
     cases h; exact (.p _)
    ·cases h; exact (.p _)
def Ud (N : Nat) (code : Int) (v : Q0) : Option (Bool) :=
 (X2 N code).bind fun v1 =>
 cond v1.2
 (cond (Q8 .eql v1.1.Kind v.Kind)
 ((Vi N v).bind fun v5 =>
 cond (Q8 .eql v5 0)
 ((J9 N v1.1 v).bind fun v8 =>
 some v8)
 (some false))
 (some false))
 (some false)
theorem Q21 {N} {code} {v} {r} (h : Ud N code v = some r) : Zo Tryz.prog G1 134 [.int .i64 code, .agg (Q0.cells v)] (.bool r) := by
 refine Q3 Qwx ?_
 unfold Ud at h
 refine cP h Uu p1 fun v1 h => ?_
 apply iU h <;> intro h
 ·apply iU h <;> intro h
  ·refine cP h Jv (.cons q4 .nil) fun v5 h => ?_
   apply iU h <;> intro h
   ·refine cP h Q6x (.cons (Frz.agg' p5) (.cons q4 .nil)) fun v8 h => ?_
    cases h; exact (.p _)
   ·cases h; exact (.p _)
  ·cases h; exact (.p _)
 ·cases h; exact (.p _)
def Zi (N : Nat) (f : Q1) (code : Int) : Option (Bool) :=
 (X2 N code).bind fun v1 =>
 cond (!v1.1.Items)
 ((Ud N code f.v).bind fun v4 =>
 some v4)
 (cond (Q8 .eql v1.1.Kind 25)
 (some true)
 (cond (!v1.1.Sized)
 (some (Q8 .eql ((Q1.rows f.kids).length : Int) 0))
 (cond (Q8 .eql v1.1.Width 4)
 (some true)
 (cond (Q8 .leq (IntKind.wrap .i64 (f.inner + 1)) 255)
 (some (Q8 .leq ((Q1.rows f.kids).length : Int) 255))
 (some false)))))
theorem Q2z {N} {f} {code} {r} (h : Zi N f code = some r) : Zo Tryz.prog G1 118 [.agg (Q1.cells f), .int .i64 code] (.bool r) := by
 refine Q3 Qvo ?_
 unfold Zi at h
 refine cP h Uu p1 fun v1 h => ?_
 apply iU h <;> intro h
 ·refine cP h Q21 (.cons (.p _) (.cons q4 .nil)) fun v4 h => ?_
  cases h; exact (.p _)
 ·apply iU h <;> intro h
  ·cases h; exact (.p _)
  ·apply iU h <;> intro h
   ·cases h; exact (.p _)
   ·apply iU h <;> intro h
    ·cases h; exact (.p _)
    ·apply iU h <;> intro h
     ·cases h; exact (.p _)
     ·cases h; exact (.p _)
def Xc (N : Nat) (k0 : Int → Option (Int)) (l : List Q1) (s54 : Int) (y56 : Int) : Nat → Bool → Int → Option (Int)
 | 0, _, _ => none
 | n + 1, all71, s72 =>
  cond (Q8 .lss s72 ((Q1.rows l).length : Int))
  ((idx l s72).bind fun y74 =>
  cond all71
  ((Zi N y74 y56).bind fun v77 =>
  Xc N k0 l s54 y56 n v77 (IntKind.wrap .i64 (s72 + 1)))
  (Xc N k0 l s54 y56 n false (IntKind.wrap .i64 (s72 + 1))))
  (cond all71
  (some y56)
  (k0 (IntKind.wrap .i64 (s54 + 1))))
def Yl (N : Nat) (l : List Q1) (v1 : List Int) : Nat → Int → Option (Int)
 | 0, _ => none
 | n + 1, s54 =>
  cond (Q8 .lss s54 ((Vo (cI .i64) v1).length : Int))
  ((idx v1 s54).bind fun y56 =>
  Xc N (Yl N l v1 n) l s54 y56 N true 0)
  (some 0)
def Wz (N : Nat) (kind : Int) (l : List Q1) : Option (Int) :=
 (Q0o N kind).bind fun v1 =>
 Yl N l v1 N 0
theorem Q0j {N} {kind} {l} {r} (h : Wz N kind l = some r) : Zo Tryz.prog G1 96 [.int .i64 kind, .slice 7 (Q1.rows l)] (.int .i64 r) := by
 refine Q3 k96 ?_
 unfold Wz at h
 refine cP h Q6a p1 fun v1 h => ?_
 refine lpC (τ := Int) (fun s54 => (.any :: .p (.slice 7 (Q1.rows l)) :: a8 (.any :: .p (.slice 1 (Vo (cI .i64) v1)) :: .p (.int .i64 ((Vo (cI .i64) v1).length : Int)) :: iI s54 :: a16 (a2 (.any :: []))) : List AV)) (fun _ => ([] : List AObj)) (fun n0 s54 => Yl N l v1 n0 s54) (0) h (fun i => i) ⟨(rA <| rE rfl <| rX <| rA <| rE rfl <| rE rfl <| rE rfl <| rX <| rX <| rW <| rA <| rN), (hN), rfl, rfl, (roN)⟩ fun n0 s54 h => ?_
 simp only [Yl] at h
 apply iU h <;> intro h
 ·refine xR h fun y56 h => ?_
  refine lpC (τ := Bool × Int) (fun ⟨all71, s72⟩ => (.any :: .p (.slice 7 (Q1.rows l)) :: a4 (iI y56 :: .p (.bool all71) :: a2 (.any :: .p (.slice 1 (Vo (cI .i64) v1)) :: .p (.int .i64 ((Vo (cI .i64) v1).length : Int)) :: iI s54 :: a2 (.any :: .p (.slice 7 (Q1.rows l)) :: iI ((Q1.rows l).length : Int) :: iI s72 :: a8 (a4 (.any :: []))))) : List AV)) (fun ⟨_, _⟩ => ([] : List AObj)) (fun n1 ⟨all71, s72⟩ => Xc N (Yl N l v1 n0) l s54 y56 n1 all71 s72) (true, 0) h (fun i => i) ⟨(rA <| rE rfl <| rV <| rE rfl <| rE rfl <| rW <| rA <| rE rfl <| rE rfl <| rE rfl <| rW <| rA <| rE rfl <| rE rfl <| rE rfl <| rX <| rV <| rA <| rN), (hN), rfl, rfl, (roN)⟩ fun n1 ⟨all71, s72⟩ h => ?_
  simp only [Xc] at h
  apply iU h <;> intro h
  ·refine Q1.xR h fun y74 h => ?_
   apply iU h <;> intro h
   ·refine cP h Q2z (.cons (Frz.agg' (.cons (.p _) (.cons (.p _) p5))) p1) fun v77 h => ?_
    show Exists _
    exact ⟨(n1, v77, (IntKind.wrap .i64 (s72 + 1))), h, Nat.lt_succ_self _, (fun i => i), ⟨(rA <| rE rfl <| rV <| rE rfl <| rE rfl <| rW <| rA <| rE rfl <| rE rfl <| rE rfl <| rW <| rA <| rE rfl <| rE rfl <| rE rfl <| rX <| rV <| rA <| rN), (hN), rfl, rfl, (roN)⟩⟩
   ·show Exists _
    exact ⟨(n1, false, (IntKind.wrap .i64 (s72 + 1))), h, Nat.lt_succ_self _, (fun i => i), ⟨(rA <| rE rfl <| rV <| rE rfl <| rE rfl <| rW <| rA <| rE rfl <| rE rfl <| rE rfl <| rW <| rA <| rE rfl <| rE rfl <| rE rfl <| rX <| rV <| rA <| rN), (hN), rfl, rfl, (roN)⟩⟩
  ·apply iU h <;> intro h
   ·cases h; exact (.p _)
   ·show Exists _
    exact ⟨(n0, (IntKind.wrap .i64 (s54 + 1))), h, Nat.lt_succ_self _, (fun i => i), ⟨(rA <| rE rfl <| rX <| rA <| rE rfl <| rE rfl <| rE rfl <| rX <| rX <| rW <| rA <| rN), (hN), rfl, rfl, (roN)⟩⟩
 ·cases h; exact (.p _)
def Yw (N : Nat) (f : Q1) : Option (Int) :=
 (Wz N f.v.Kind [f]).bind fun v1 =>
 some v1
theorem U4 {N} {f} {r} (h : Yw N f = some r) : Zo Tryz.prog G1 75 [.agg (Q1.cells f)] (.int .i64 r) := by
 refine Q3 k75 ?_
 unfold Yw at h
 refine cK h Q0j (.cons (.p _) (.cons (Q1.frz_own (l := [f]) rfl trivial (by simp)) .nil)) fun v1 h => ?_
 cases h; exact (.p _)
def Xj (_N : Nat) (b : Qm) (s_1 : List UInt8) : Option ((Unit) × Qm) :=
 cond (Nat.beq s_1.length 0)
 (some ((), b))
 (cond (Nat.ble ((b.b.length + s_1.length + 4096) * 1) 17592186044416) (some ((), (⟨(b.b ++ (s_1.map fun b => (b.toNat : Int)))⟩ : Qm))) none)
theorem Jr {N} {b} {s_1} {r} (h : Xj N b s_1 = some r) : GC Tryz.prog G1 115 (.ptr 0 0 :: .p (.str s_1) :: []) (.cells (.slice 1 1 0 b.b.length :: []) :: .cells (X3 (cI .u8) b.b) :: []) (.tuple []) (.cells (.slice 1 2 0 r.2.b.length :: []) :: .dead :: .cells (X3 (cI .u8) r.2.b) :: []) := by
 refine Q06 Qwi (Nat.le_of_ble_eq_true rfl) ?_
 unfold Xj at h
 refine Q7a (b := s_1) ?_
 apply iU h <;> intro h
 ·obtain rfl := Zn h
  show Exists _
  exact ⟨(rho [0, 1, 1]), ⟨(rE rfl <| rN), (hE rfl <| hD <| hO rfl <| hN), rfl, rfl, (roE rfl <| roE rfl <| roE (Qa _ _ _) <| roN)⟩⟩
 ·obtain ⟨hk2, h⟩ := Q9j h
  refine Q7c (J5 (c := (cI .u8)) (e := 1) (l := b.b) (fun _ => rfl) (by simp) hk2) ?_
  refine Gz (c := (cI .u8)) (l := b.b) (s_1.map fun b => (b.toNat : Int)) rfl ?_
  obtain rfl := Zn h
  show Exists _
  exact ⟨(rho [0, 1, 2]), ⟨(rE rfl <| rN), (hC rfl (rL (by simp) rfl <| rN) <| hD <| hO rfl <| hN), rfl, rfl, (roE rfl <| roE rfl <| roE (Qa _ _ _) <| roN)⟩⟩
def Vu (N : Nat) (n_0 : Int) (size : Int) : Nat → Int → (List Int) → Option (List UInt8)
 | 0, _, _ => none
 | n + 1, s14, l15 =>
  cond (Q8 .lss s14 (ifB (decide (16 < size)) 16 size))
  (cond (Q8 .lss s14 8)
  (cond (decide (0 ≤ (IntKind.wrap .u64 (IntKind.wrap .i64 (8 * s14))))) ((idx (l15 : List Int) (IntKind.wrap .i64 ((IntKind.wrap .i64 ((ifB (decide (16 < size)) 16 size) - 1)) - s14))).bind fun y19 =>
  Vu N n_0 size n (IntKind.wrap .i64 (s14 + 1)) ((l15 : List Int).set (Int.toNat (IntKind.wrap .i64 ((IntKind.wrap .i64 ((ifB (decide (16 < size)) 16 size) - 1)) - s14))) (IntKind.wrap .u8 (Q2n .u64 n_0 (IntKind.wrap .u64 (IntKind.wrap .i64 (8 * s14))))))) none)
  (Vu N n_0 size n (IntKind.wrap .i64 (s14 + 1)) l15))
  (some (l15.map fun n => UInt8.ofNat n.toNat))
def V0 (N : Nat) (n_0 : Int) (size : Int) : Option (List UInt8) :=
 cond (Q8 .leq size 0)
 (some [])
 (cond (decide (0 ≤ (ifB (decide (16 < size)) 16 size)) && decide ((ifB (decide (16 < size)) 16 size) ≤ (ifB (decide (16 < size)) 16 size)) && decide ((ifB (decide (16 < size)) 16 size) * 1 ≤ 1099511627776)) (Vu N n_0 size N 0 (List.replicate ((ifB (decide (16 < size)) 16 size) : Int).toNat (0 : Int))) none)
theorem V9 {N} {n_0} {size} {r} (h : V0 N n_0 size = some r) : Zo Tryz.prog G1 102 [.int .u64 n_0, .int .i64 size] (.str r) := by
 refine Q3 Qje ?_
 unfold V0 at h
 apply iU h <;> intro h
 ·cases h; exact (.p _)
 ·refine kU h fun h => ?_
  refine Qth (c := (cI .u8)) (0 : Int) rfl ?_
  refine lpC (τ := Int × (List Int)) (fun ⟨s14, l15⟩ => (iW n_0 :: .p (.int .i64 (ifB (decide (16 < size)) 16 size)) :: a2 (.any :: .slice 1 1 0 l15.length :: a4 (a2 (.any :: .p (.int .i64 (ifB (decide (16 < size)) 16 size)) :: iI s14 :: a16 (a2 (.any :: []))))) : List AV)) (fun ⟨_, l15⟩ => (.dead :: .cells (X3 (cI .u8) l15) :: [] : List AObj)) (fun n0 ⟨s14, l15⟩ => Vu N n_0 size n0 s14 l15) (0, (List.replicate ((ifB (decide (16 < size)) 16 size) : Int).toNat (0 : Int))) h (rho [0, 0]) ⟨(rE rfl <| rE rfl <| rW <| rA <| rL (by simp) rfl <| rV <| rW <| rA <| rE rfl <| rE rfl <| rX <| rX <| rW <| rA <| rN), (hD <| hO rfl <| hN), rfl, rfl, (roE rfl <| roE (Qa _ _ _) <| roN)⟩ fun n0 ⟨s14, l15⟩ h => ?_
  simp only [Vu] at h
  apply iU h <;> intro h
  ·apply iU h <;> intro h
   ·refine kU h fun h => ?_
    obtain ⟨y19, hy20, h⟩ := Q6z h
    refine Q7c (Qc4 hy20 (by simp)) ?_
    refine Q7c (Qe0 (c := (cI .u8)) (e := 1) (fun _ => rfl) hy20 (off := 0) (by omega) rfl (by decide)) ?_
    refine Qdg (c := (cI .u8)) (e := 1) (fun _ => rfl) hy20 (IntKind.wrap .u8 (Q2n .u64 n_0 (IntKind.wrap .u64 (IntKind.wrap .i64 (8 * s14))))) (off := 0) (by first | omega | (simp only [Gs, orI, Qst, Qci, Q0z, Q2n]; omega)) rfl (by simp) ?_
    show Exists _
    exact ⟨(n0, (IntKind.wrap .i64 (s14 + 1)), ((l15 : List Int).set (Int.toNat (IntKind.wrap .i64 ((IntKind.wrap .i64 ((ifB (decide (16 < size)) 16 size) - 1)) - s14))) (IntKind.wrap .u8 (Q2n .u64 n_0 (IntKind.wrap .u64 (IntKind.wrap .i64 (8 * s14))))))), h, Nat.lt_succ_self _, (fun i => i), ⟨(rE rfl <| rE rfl <| rW <| rA <| rL (by simp) rfl <| rV <| rW <| rA <| rE rfl <| rE rfl <| rX <| rX <| rW <| rA <| rN), (hD <| hO rfl <| hN), rfl, rfl, (roE rfl <| roE (Qa _ _ _) <| roN)⟩⟩
   ·show Exists _
    exact ⟨(n0, (IntKind.wrap .i64 (s14 + 1)), l15), h, Nat.lt_succ_self _, (fun i => i), ⟨(rE rfl <| rE rfl <| rW <| rA <| rE rfl <| rV <| rW <| rA <| rE rfl <| rE rfl <| rX <| rX <| rW <| rA <| rN), (hD <| hO rfl <| hN), rfl, rfl, (roE rfl <| roE (Qa _ _ _) <| roN)⟩⟩
  ·refine Qk7 (l := l15) (by simp) ?_
   cases h; exact (.p _)
def Qu (N : Nat) (b : Qm) (n_1 : Int) (width : Int) : Option ((Unit) × Qm) :=
 (V0 N (IntKind.wrap .u64 n_1) width).bind fun v1 =>
 (Xj N b v1).bind fun v3 =>
 some ((), v3.2)
theorem Yj {N} {b} {n_1} {width} {r} (h : Qu N b n_1 width = some r) : GC Tryz.prog G1 92 (.ptr 0 0 :: .p (.int .i64 n_1) :: .p (.int .i64 width) :: []) (.cells (.slice 1 1 0 b.b.length :: []) :: .cells (X3 (cI .u8) b.b) :: []) (.tuple []) (.cells (.slice 1 2 0 r.2.b.length :: []) :: .dead :: .cells (X3 (cI .u8) r.2.b) :: []) := by
 refine Q06 k92 (Nat.le_of_ble_eq_true rfl) ?_
 unfold Qu at h
 refine cP h V9 p2 fun v1 h => ?_
 refine cG h Jr fun v3 h => ?_
 refine ⟨rho [0, 1], (.cells (.slice 1 2 0 v3.2.b.length :: []) :: .dead :: .cells (X3 (cI .u8) v3.2.b) :: []), .tuple [], ⟨(rE rfl <| rE rfl <| rN), (hE rfl <| hO rfl <| hN), rfl, rfl, (roE rfl <| roE (Qa _ _ _) <| roN), rfl, (fR 0 rfl rfl rfl rfl <| fD <| fO 2 rfl rfl rfl <| fN), rfl⟩, ?_⟩
 obtain rfl := Zn h
 show Exists _
 exact ⟨(rho [0, 1, 2]), ⟨(rE rfl <| rN), (hE rfl <| hD <| hO rfl <| hN), rfl, rfl, (roE rfl <| roE rfl <| roE (Qa _ _ _) <| roN)⟩⟩
def Zh (N : Nat) (d : Z1) : Option (List UInt8) :=
 (V0 N d.v.N' d.c.Width).bind fun v1 =>
 some v1
theorem Wf {N} {d} {r} (h : Zh N d = some r) : Zo Tryz.prog G1 137 [.agg (Z1.cells d)] (.str r) := by
 refine Q3 Qvf ?_
 unfold Zh at h
 refine cP h V9 p2 fun v1 h => ?_
 cases h; exact (.p _)
def Wn (N : Nat) (d : Z1) : Option (List UInt8) :=
 (V0 N (IntKind.wrap .u64 (d.v.Text.length : Int)) d.c.Width).bind fun v1 =>
 cond (Nat.ble (v1.length + d.v.Text.length) 4611686018427387904) (some (v1 ++ d.v.Text)) none
theorem Q1n {N} {d} {r} (h : Wn N d = some r) : Zo Tryz.prog G1 135 [.agg (Z1.cells d)] (.str r) := by
 refine Q3 Qv7 ?_
 unfold Wn at h
 refine Qx ?_
 refine cD h V9 p2 fun v1 h => ?_
 refine kU h fun h => ?_
 cases h; exact (.p _)
def Vv (_N : Nat) (d : Z1) : Option (List UInt8) :=
 some []
theorem Q2p {N} {d} {r} (h : Vv N d = some r) : Zo Tryz.prog G1 136 [.agg (Z1.cells d)] (.str r) := by
 refine Q3 Qv6 ?_
 unfold Vv at h
 cases h; exact (.p _)
def Uv (_N : Nat) (d : Z1) : Option (List UInt8) :=
 some d.v.Text
theorem Q1m {N} {d} {r} (h : Uv N d = some r) : Zo Tryz.prog G1 138 [.agg (Z1.cells d)] (.str r) := by
 refine Q3 Qwj ?_
 unfold Uv at h
 cases h; exact (.p _)
def G4 (N : Nat) (code : Int) (v : Q0) : Option ((List UInt8) × Int) :=
 (Vi N v).bind fun v1 =>
 cond (Q8 .neq v1 0)
 (some ([], v1))
 ((Ud N code v).bind fun v4 =>
 cond (!v4)
 (some ([], 2))
 ((X2 N code).bind fun v7 =>
 cond v7.1.Sized
 ((Wn N (⟨v7.1, v⟩ : Z1)).bind fun v10 =>
 some (v10, 0))
 (cond ((v7.1.Width : Int) == 0)
 ((Vv N (⟨v7.1, v⟩ : Z1)).bind fun v13 =>
 some (v13, 0))
 (cond ((v7.1.Width : Int) == 1)
 ((Zh N (⟨v7.1, v⟩ : Z1)).bind fun v16 =>
 some (v16, 0))
 (cond ((v7.1.Width : Int) == 2)
 ((Zh N (⟨v7.1, v⟩ : Z1)).bind fun v19 =>
 some (v19, 0))
 (cond ((v7.1.Width : Int) == 4)
 ((Zh N (⟨v7.1, v⟩ : Z1)).bind fun v22 =>
 some (v22, 0))
 (cond ((v7.1.Width : Int) == 8)
 ((Zh N (⟨v7.1, v⟩ : Z1)).bind fun v25 =>
 some (v25, 0))
 (cond ((v7.1.Width : Int) == 16)
 ((Uv N (⟨v7.1, v⟩ : Z1)).bind fun v28 =>
 some (v28, 0))
 (none)))))))))
theorem Q7p {N} {code} {v} {r} (h : G4 N code v = some r) : Zo Tryz.prog G1 116 [.int .i64 code, .agg (Q0.cells v)] (.tuple [.str r.1, .int .i64 r.2]) := by
 refine Q3 Qx0 ?_
 unfold G4 at h
 refine cP h Jv (.cons q4 .nil) fun v1 h => ?_
 apply iU h <;> intro h
 ·obtain rfl := Zn h; exact u2
 ·refine cP h Q21 (.cons (.p _) (.cons q4 .nil)) fun v4 h => ?_
  apply iU h <;> intro h
  ·obtain rfl := Zn h; exact u2
  ·refine cP h Uu p1 fun v7 h => ?_
   apply iU h <;> intro h
   ·refine cP h Q1n (.cons (Frz.agg' (.cons (.p _) (.cons (.p _) (.cons (.p _) (.cons (.p _) p5))))) .nil) fun v10 h => ?_
    obtain rfl := Zn h; exact u2
   ·apply iU h <;> intro h
    ·refine cP h Q2p (.cons (Frz.agg' (.cons (.p _) (.cons (.p _) (.cons (.p _) (.cons (.p _) p5))))) .nil) fun v13 h => ?_
     obtain rfl := Zn h; exact u2
    ·apply iU h <;> intro h
     ·refine cP h Wf (.cons (Frz.agg' (.cons (.p _) (.cons (.p _) (.cons (.p _) (.cons (.p _) p5))))) .nil) fun v16 h => ?_
      obtain rfl := Zn h; exact u2
     ·apply iU h <;> intro h
      ·refine cP h Wf (.cons (Frz.agg' (.cons (.p _) (.cons (.p _) (.cons (.p _) (.cons (.p _) p5))))) .nil) fun v19 h => ?_
       obtain rfl := Zn h; exact u2
      ·apply iU h <;> intro h
       ·refine cP h Wf (.cons (Frz.agg' (.cons (.p _) (.cons (.p _) (.cons (.p _) (.cons (.p _) p5))))) .nil) fun v22 h => ?_
        obtain rfl := Zn h; exact u2
       ·apply iU h <;> intro h
        ·refine cP h Wf (.cons (Frz.agg' (.cons (.p _) (.cons (.p _) (.cons (.p _) (.cons (.p _) p5))))) .nil) fun v25 h => ?_
         obtain rfl := Zn h; exact u2
        ·apply iU h <;> intro h
         ·refine cP h Q1m (.cons (Frz.agg' (.cons (.p _) (.cons (.p _) (.cons (.p _) (.cons (.p _) p5))))) .nil) fun v28 h => ?_
          obtain rfl := Zn h; exact u2
         ·first | (cases h; done) | (simp [Qql] at h; done)
def Xp (rx1 : Q2 → Q1 → Option ((Unit) × Q2)) (ry1 : Q2 → Int → Q1 → Option ((Unit) × Q2)) (N : Nat) (w : Q2) (f : Q1) : Option ((Unit) × Q2) :=
 (Yw N f).bind fun v1 =>
 (Qu N w.buffer v1 1).bind fun v3 =>
 (ry1 (⟨v3.2⟩ : Q2) v1 f).bind fun v5 =>
 some ((), v5.2)
theorem Q0t {rx1 : Q2 → Q1 → Option ((Unit) × Q2)} {ry1 : Q2 → Int → Q1 → Option ((Unit) × Q2)} (hx3 : ∀ {w} {f} {r}, rx1 w f = some r → GC Tryz.prog G1 62 (.ptr 0 0 :: .p (.agg (Q1.cells f)) :: []) (.cells (.slice 1 1 0 w.buffer.b.length :: []) :: .cells (X3 (cI .u8) w.buffer.b) :: []) (.tuple []) (.cells (.slice 1 2 0 r.2.buffer.b.length :: []) :: .dead :: .cells (X3 (cI .u8) r.2.buffer.b) :: [])) (hy3 : ∀ {w} {code} {f} {r}, ry1 w code f = some r → GC Tryz.prog G1 93 (.ptr 0 0 :: .p (.int .i64 code) :: .p (.agg (Q1.cells f)) :: []) (.cells (.slice 1 1 0 w.buffer.b.length :: []) :: .cells (X3 (cI .u8) w.buffer.b) :: []) (.tuple []) (.cells (.slice 1 2 0 r.2.buffer.b.length :: []) :: .dead :: .cells (X3 (cI .u8) r.2.buffer.b) :: [])) {N} {w} {f} {r} (h : Xp rx1 ry1 N w f = some r) : GC Tryz.prog G1 62 (.ptr 0 0 :: .p (.agg (Q1.cells f)) :: []) (.cells (.slice 1 1 0 w.buffer.b.length :: []) :: .cells (X3 (cI .u8) w.buffer.b) :: []) (.tuple []) (.cells (.slice 1 2 0 r.2.buffer.b.length :: []) :: .dead :: .cells (X3 (cI .u8) r.2.buffer.b) :: []) := by
 refine Q06 k62 (Nat.le_of_ble_eq_true rfl) ?_
 unfold Xp at h
 refine cP h U4 (.cons (Frz.agg' (.cons (.p _) (.cons (.p _) p5))) .nil) fun v1 h => ?_
 refine cG h Yj fun v3 h => ?_
 refine ⟨rho [0, 1], (.cells (.slice 1 3 0 v3.2.b.length :: []) :: .dead :: .cells (iI f.v.Kind :: iW f.v.N' :: iS f.v.Text :: .p (.slice 4 (Q0.rows f.v.Items)) :: .p (.slice 7 (Q1.rows f.kids)) :: iI f.element :: iI f.inner :: []) :: .cells (X3 (cI .u8) v3.2.b) :: []), .tuple [], ⟨(rE rfl <| rE rfl <| rE rfl <| rN), (hE rfl <| hO rfl <| hN), rfl, rfl, (roE rfl <| roE (Qa _ _ _) <| roN), rfl, (fR 0 rfl rfl rfl rfl <| fD <| fK rfl rfl <| fO 2 rfl rfl rfl <| fN), rfl⟩, ?_⟩
 refine cG h hy3 fun v5 h => ?_
 refine ⟨rho [0, 3], (.cells (.slice 1 4 0 v5.2.buffer.b.length :: []) :: .dead :: .cells (iI f.v.Kind :: iW f.v.N' :: iS f.v.Text :: .p (.slice 4 (Q0.rows f.v.Items)) :: .p (.slice 7 (Q1.rows f.kids)) :: iI f.element :: iI f.inner :: []) :: .dead :: .cells (X3 (cI .u8) v5.2.buffer.b) :: []), .tuple [], ⟨(rE rfl <| rE rfl <| rF (Frz.agg' (.cons (.p _) (.cons (.p _) p5))) <| rN), (hE rfl <| hO rfl <| hN), rfl, rfl, (roE rfl <| roE (Qa _ _ _) <| roN), rfl, (fR 0 rfl rfl rfl rfl <| fD <| fK rfl rfl <| fD <| fO 2 rfl rfl rfl <| fN), rfl⟩, ?_⟩
 obtain rfl := Zn h
 show Exists _
 exact ⟨(rho [0, 1, 4]), ⟨(rE rfl <| rN), (hE rfl <| hD <| hO rfl <| hN), rfl, rfl, (roE rfl <| roE rfl <| roE (Qa _ _ _) <| roN)⟩⟩
def Y1 (ry1 : Q2 → Int → Q1 → Option ((Unit) × Q2)) (N : Nat) (f : Q1) : Nat → Int → (List Int) → Option ((Unit) × Q2)
 | 0, _, _ => none
 | n + 1, s28, l29 =>
  cond (Q8 .lss s28 ((Q1.rows f.kids).length : Int))
  ((idx f.kids s28).bind fun y31 =>
  (ry1 (⟨(⟨l29⟩ : Qm)⟩ : Q2) f.element y31).bind fun v33 =>
  Y1 ry1 N f n (IntKind.wrap .i64 (s28 + 1)) v33.2.buffer.b)
  (some ((), (⟨(⟨l29⟩ : Qm)⟩ : Q2)))
def Zz (rx1 : Q2 → Q1 → Option ((Unit) × Q2)) (N : Nat) (f : Q1) : Nat → Int → (List Int) → Option ((Unit) × Q2)
 | 0, _, _ => none
 | n + 1, s47, l48 =>
  cond (Q8 .lss s47 ((Q1.rows f.kids).length : Int))
  ((idx f.kids s47).bind fun y50 =>
  (rx1 (⟨(⟨l48⟩ : Qm)⟩ : Q2) y50).bind fun v52 =>
  Zz rx1 N f n (IntKind.wrap .i64 (s47 + 1)) v52.2.buffer.b)
  (some ((), (⟨(⟨l48⟩ : Qm)⟩ : Q2)))
def We (ry1 : Q2 → Int → Q1 → Option ((Unit) × Q2)) (N : Nat) (f : Q1) : Nat → Int → (List Int) → Option ((Unit) × Q2)
 | 0, _, _ => none
 | n + 1, s69, l70 =>
  cond (Q8 .lss s69 ((Q1.rows f.kids).length : Int))
  ((idx f.kids s69).bind fun y72 =>
  (ry1 (⟨(⟨l70⟩ : Qm)⟩ : Q2) f.element y72).bind fun v74 =>
  We ry1 N f n (IntKind.wrap .i64 (s69 + 1)) v74.2.buffer.b)
  (some ((), (⟨(⟨l70⟩ : Qm)⟩ : Q2)))
def Zw (rx1 : Q2 → Q1 → Option ((Unit) × Q2)) (N : Nat) (f : Q1) : Nat → Int → (List Int) → Option ((Unit) × Q2)
 | 0, _, _ => none
 | n + 1, s88, l89 =>
  cond (Q8 .lss s88 ((Q1.rows f.kids).length : Int))
  ((idx f.kids s88).bind fun y91 =>
  (rx1 (⟨(⟨l89⟩ : Qm)⟩ : Q2) y91).bind fun v93 =>
  Zw rx1 N f n (IntKind.wrap .i64 (s88 + 1)) v93.2.buffer.b)
  (some ((), (⟨(⟨l89⟩ : Qm)⟩ : Q2)))
def Y4 (rx1 : Q2 → Q1 → Option ((Unit) × Q2)) (ry1 : Q2 → Int → Q1 → Option ((Unit) × Q2)) (N : Nat) (w : Q2) (code : Int) (f : Q1) : Option ((Unit) × Q2) :=
 (X2 N code).bind fun v1 =>
 cond (!v1.1.Items)
 ((G4 N code f.v).bind fun v4 =>
 (Xj N w.buffer v4.1).bind fun v6 =>
 some ((), (⟨v6.2⟩ : Q2)))
 (cond v1.1.Sized
 ((Qu N w.buffer (IntKind.wrap .i64 (v1.1.Width + f.inner)) v1.1.Width).bind fun v9 =>
 (Qu N v9.2 ((Q1.rows f.kids).length : Int) v1.1.Width).bind fun v11 =>
 cond (Q8 .eql v1.1.Kind 24)
 ((Qu N v11.2 f.element 1).bind fun v14 =>
 Y1 ry1 N f N 0 v14.2.b)
 (Zz rx1 N f N 0 v11.2.b))
 (cond (Q8 .eql v1.1.Kind 24)
 ((Qu N w.buffer f.element 1).bind fun v55 =>
 We ry1 N f N 0 v55.2.b)
 (Zw rx1 N f N 0 w.buffer.b)))
theorem Q1b {rx1 : Q2 → Q1 → Option ((Unit) × Q2)} {ry1 : Q2 → Int → Q1 → Option ((Unit) × Q2)} (hx3 : ∀ {w} {f} {r}, rx1 w f = some r → GC Tryz.prog G1 62 (.ptr 0 0 :: .p (.agg (Q1.cells f)) :: []) (.cells (.slice 1 1 0 w.buffer.b.length :: []) :: .cells (X3 (cI .u8) w.buffer.b) :: []) (.tuple []) (.cells (.slice 1 2 0 r.2.buffer.b.length :: []) :: .dead :: .cells (X3 (cI .u8) r.2.buffer.b) :: [])) (hy3 : ∀ {w} {code} {f} {r}, ry1 w code f = some r → GC Tryz.prog G1 93 (.ptr 0 0 :: .p (.int .i64 code) :: .p (.agg (Q1.cells f)) :: []) (.cells (.slice 1 1 0 w.buffer.b.length :: []) :: .cells (X3 (cI .u8) w.buffer.b) :: []) (.tuple []) (.cells (.slice 1 2 0 r.2.buffer.b.length :: []) :: .dead :: .cells (X3 (cI .u8) r.2.buffer.b) :: [])) {N} {w} {code} {f} {r} (h : Y4 rx1 ry1 N w code f = some r) : GC Tryz.prog G1 93 (.ptr 0 0 :: .p (.int .i64 code) :: .p (.agg (Q1.cells f)) :: []) (.cells (.slice 1 1 0 w.buffer.b.length :: []) :: .cells (X3 (cI .u8) w.buffer.b) :: []) (.tuple []) (.cells (.slice 1 2 0 r.2.buffer.b.length :: []) :: .dead :: .cells (X3 (cI .u8) r.2.buffer.b) :: []) := by
 refine Q06 k93 (Nat.le_of_ble_eq_true rfl) ?_
 unfold Y4 at h
 refine cP h Uu p1 fun v1 h => ?_
 apply iU h <;> intro h
 ·refine cP h Q7p (.cons (.p _) (.cons q4 .nil)) fun v4 h => ?_
  refine cG h Jr fun v6 h => ?_
  refine ⟨rho [0, 1], (.cells (.slice 1 4 0 v6.2.b.length :: []) :: .dead :: .cells (iI f.v.Kind :: iW f.v.N' :: iS f.v.Text :: .p (.slice 4 (Q0.rows f.v.Items)) :: .p (.slice 7 (Q1.rows f.kids)) :: iI f.element :: iI f.inner :: []) :: .cells (iI v1.1.Code :: iI v1.1.Kind :: iI v1.1.Width :: .p (.bool v1.1.Sized) :: .p (.bool v1.1.Items) :: []) :: .cells (X3 (cI .u8) v6.2.b) :: []), .tuple [], ⟨(rE rfl <| rE rfl <| rN), (hE rfl <| hO rfl <| hN), rfl, rfl, (roE rfl <| roE (Qa _ _ _) <| roN), rfl, (fR 0 rfl rfl rfl rfl <| fD <| fK rfl rfl <| fK rfl rfl <| fO 2 rfl rfl rfl <| fN), rfl⟩, ?_⟩
  obtain rfl := Zn h
  show Exists _
  exact ⟨(rho [0, 1, 4]), ⟨(rE rfl <| rN), (hE rfl <| hD <| hO rfl <| hN), rfl, rfl, (roE rfl <| roE rfl <| roE (Qa _ _ _) <| roN)⟩⟩
 ·apply iU h <;> intro h
  ·refine Jq 10 rfl rfl ?_
   refine cG h Yj fun v9 h => ?_
   refine ⟨rho [0, 1], (.cells (.slice 1 4 0 v9.2.b.length :: []) :: .dead :: .cells (iI f.v.Kind :: iW f.v.N' :: iS f.v.Text :: .p (.slice 4 (Q0.rows f.v.Items)) :: .p (.slice 7 (Q1.rows f.kids)) :: iI f.element :: iI f.inner :: []) :: .cells (iI v1.1.Code :: iI v1.1.Kind :: iI v1.1.Width :: .p (.bool v1.1.Sized) :: .p (.bool v1.1.Items) :: []) :: .cells (X3 (cI .u8) v9.2.b) :: []), .tuple [], ⟨(rE rfl <| rE rfl <| rE rfl <| rN), (hE rfl <| hO rfl <| hN), rfl, rfl, (roE rfl <| roE (Qa _ _ _) <| roN), rfl, (fR 0 rfl rfl rfl rfl <| fD <| fK rfl rfl <| fK rfl rfl <| fO 2 rfl rfl rfl <| fN), rfl⟩, ?_⟩
   refine Jq 8 rfl rfl ?_
   refine cG h Yj fun v11 h => ?_
   refine ⟨rho [0, 4], (.cells (.slice 1 5 0 v11.2.b.length :: []) :: .dead :: .cells (iI f.v.Kind :: iW f.v.N' :: iS f.v.Text :: .p (.slice 4 (Q0.rows f.v.Items)) :: .p (.slice 7 (Q1.rows f.kids)) :: iI f.element :: iI f.inner :: []) :: .cells (iI v1.1.Code :: iI v1.1.Kind :: iI v1.1.Width :: .p (.bool v1.1.Sized) :: .p (.bool v1.1.Items) :: []) :: .dead :: .cells (X3 (cI .u8) v11.2.b) :: []), .tuple [], ⟨(rE rfl <| rE rfl <| rE rfl <| rN), (hE rfl <| hO rfl <| hN), rfl, rfl, (roE rfl <| roE (Qa _ _ _) <| roN), rfl, (fR 0 rfl rfl rfl rfl <| fD <| fK rfl rfl <| fK rfl rfl <| fD <| fO 2 rfl rfl rfl <| fN), rfl⟩, ?_⟩
   refine ifO h (fun hc13 h => ?_) (fun hc13 h => ?_)
   ·refine Jq 5 rfl rfl ?_
    refine cG h Yj fun v14 h => ?_
    refine ⟨rho [0, 5], (.cells (.slice 1 6 0 v14.2.b.length :: []) :: .dead :: .cells (iI f.v.Kind :: iW f.v.N' :: iS f.v.Text :: .p (.slice 4 (Q0.rows f.v.Items)) :: .p (.slice 7 (Q1.rows f.kids)) :: iI f.element :: iI f.inner :: []) :: .cells (iI v1.1.Code :: iI v1.1.Kind :: iI v1.1.Width :: .p (.bool v1.1.Sized) :: .p (.bool v1.1.Items) :: []) :: .dead :: .dead :: .cells (X3 (cI .u8) v14.2.b) :: []), .tuple [], ⟨(rE rfl <| rE rfl <| rE rfl <| rN), (hE rfl <| hO rfl <| hN), rfl, rfl, (roE rfl <| roE (Qa _ _ _) <| roN), rfl, (fR 0 rfl rfl rfl rfl <| fD <| fK rfl rfl <| fK rfl rfl <| fD <| fD <| fO 2 rfl rfl rfl <| fN), rfl⟩, ?_⟩
    refine lpC (τ := Int × (List Int)) (fun ⟨s28, _⟩ => (.ptr 0 0 :: a4 (.ptr 2 0 :: .ptr 3 0 :: a16 (a16 (a16 (a8 (.any :: .p (.slice 7 (Q1.rows f.kids)) :: iI ((Q1.rows f.kids).length : Int) :: iI s28 :: a8 (a4 (a2 (.any :: [])))))))) : List AV)) (fun ⟨_, l29⟩ => (.cells (.slice 1 7 0 l29.length :: []) :: .dead :: .cells (iI f.v.Kind :: iW f.v.N' :: iS f.v.Text :: .p (.slice 4 (Q0.rows f.v.Items)) :: .p (.slice 7 (Q1.rows f.kids)) :: iI f.element :: iI f.inner :: []) :: .cells (iI v1.1.Code :: iI v1.1.Kind :: iI v1.1.Width :: .p (.bool v1.1.Sized) :: .p (.bool v1.1.Items) :: []) :: .dead :: .dead :: .dead :: .cells (X3 (cI .u8) l29) :: [] : List AObj)) (fun n0 ⟨s28, l29⟩ => Y1 ry1 N f n0 s28 l29) (0, v14.2.b) h (rho [0, 1, 2, 3, 4, 5, 6, 6]) ⟨(rE rfl <| rV <| rE rfl <| rE rfl <| rX <| rX <| rX <| rX <| rX <| rX <| rX <| rA <| rE rfl <| rE rfl <| rE rfl <| rX <| rV <| rW <| rA <| rN), (hE rfl <| hD <| hE rfl <| hE rfl <| hD <| hD <| hD <| hO rfl <| hN), rfl, rfl, (roE rfl <| roE rfl <| roE rfl <| roE rfl <| roE rfl <| roE rfl <| roE rfl <| roE (Qa _ _ _) <| roN)⟩ fun n0 ⟨s28, l29⟩ h => ?_
    simp only [Y1] at h
    apply iU h <;> intro h
    ·refine Q1.xR h fun y31 h => ?_
     refine ifT hc13 ?_
     refine cG h hy3 fun v33 h => ?_
     refine ⟨rho [0, 7], (.cells (.slice 1 9 0 v33.2.buffer.b.length :: []) :: .dead :: .cells (iI f.v.Kind :: iW f.v.N' :: iS f.v.Text :: .p (.slice 4 (Q0.rows f.v.Items)) :: .p (.slice 7 (Q1.rows f.kids)) :: iI f.element :: iI f.inner :: []) :: .cells (iI v1.1.Code :: iI v1.1.Kind :: iI v1.1.Width :: .p (.bool v1.1.Sized) :: .p (.bool v1.1.Items) :: []) :: .dead :: .dead :: .dead :: .dead :: .cells (iI y31.v.Kind :: iW y31.v.N' :: iS y31.v.Text :: .p (.slice 4 (Q0.rows y31.v.Items)) :: .p (.slice 7 (Q1.rows y31.kids)) :: iI y31.element :: iI y31.inner :: []) :: .cells (X3 (cI .u8) v33.2.buffer.b) :: []), .tuple [], ⟨(rE rfl <| rE rfl <| rF (Frz.agg' (.cons (.p _) (.cons (.p _) p5))) <| rN), (hE rfl <| hO rfl <| hN), rfl, rfl, (roE rfl <| roE (Qa _ _ _) <| roN), rfl, (fR 0 rfl rfl rfl rfl <| fD <| fK rfl rfl <| fK rfl rfl <| fD <| fD <| fD <| fD <| fK rfl rfl <| fO 2 rfl rfl rfl <| fN), rfl⟩, ?_⟩
     show Exists _
     exact ⟨(n0, (IntKind.wrap .i64 (s28 + 1)), v33.2.buffer.b), h, Nat.lt_succ_self _, (rho [0, 1, 2, 3, 4, 5, 6, 9]), ⟨(rE rfl <| rV <| rE rfl <| rE rfl <| rX <| rX <| rX <| rX <| rX <| rX <| rX <| rA <| rE rfl <| rE rfl <| rE rfl <| rX <| rV <| rW <| rA <| rN), (hE rfl <| hD <| hE rfl <| hE rfl <| hD <| hD <| hD <| hO rfl <| hN), rfl, rfl, (roE rfl <| roE rfl <| roE rfl <| roE rfl <| roE rfl <| roE rfl <| roE rfl <| roE (Qa _ _ _) <| roN)⟩⟩
    ·obtain rfl := Zn h
     show Exists _
     exact ⟨(rho [0, 1, 7]), ⟨(rE rfl <| rN), (hE rfl <| hD <| hO rfl <| hN), rfl, rfl, (roE rfl <| roE rfl <| roE (Qa _ _ _) <| roN)⟩⟩
   ·refine lpC (τ := Int × (List Int)) (fun ⟨s47, _⟩ => (.ptr 0 0 :: a4 (.ptr 2 0 :: .ptr 3 0 :: a16 (a16 (a16 (a8 (.any :: .p (.slice 7 (Q1.rows f.kids)) :: iI ((Q1.rows f.kids).length : Int) :: iI s47 :: a8 (a4 (a2 (.any :: [])))))))) : List AV)) (fun ⟨_, l48⟩ => (.cells (.slice 1 6 0 l48.length :: []) :: .dead :: .cells (iI f.v.Kind :: iW f.v.N' :: iS f.v.Text :: .p (.slice 4 (Q0.rows f.v.Items)) :: .p (.slice 7 (Q1.rows f.kids)) :: iI f.element :: iI f.inner :: []) :: .cells (iI v1.1.Code :: iI v1.1.Kind :: iI v1.1.Width :: .p (.bool v1.1.Sized) :: .p (.bool v1.1.Items) :: []) :: .dead :: .dead :: .cells (X3 (cI .u8) l48) :: [] : List AObj)) (fun n1 ⟨s47, l48⟩ => Zz rx1 N f n1 s47 l48) (0, v11.2.b) h (rho [0, 1, 2, 3, 4, 5, 5]) ⟨(rE rfl <| rV <| rE rfl <| rE rfl <| rX <| rX <| rX <| rX <| rX <| rX <| rX <| rA <| rE rfl <| rE rfl <| rE rfl <| rX <| rV <| rW <| rA <| rN), (hE rfl <| hD <| hE rfl <| hE rfl <| hD <| hD <| hO rfl <| hN), rfl, rfl, (roE rfl <| roE rfl <| roE rfl <| roE rfl <| roE rfl <| roE rfl <| roE (Qa _ _ _) <| roN)⟩ fun n1 ⟨s47, l48⟩ h => ?_
    simp only [Zz] at h
    apply iU h <;> intro h
    ·refine Q1.xR h fun y50 h => ?_
     refine ifF hc13 ?_
     refine cG h hx3 fun v52 h => ?_
     refine ⟨rho [0, 6], (.cells (.slice 1 8 0 v52.2.buffer.b.length :: []) :: .dead :: .cells (iI f.v.Kind :: iW f.v.N' :: iS f.v.Text :: .p (.slice 4 (Q0.rows f.v.Items)) :: .p (.slice 7 (Q1.rows f.kids)) :: iI f.element :: iI f.inner :: []) :: .cells (iI v1.1.Code :: iI v1.1.Kind :: iI v1.1.Width :: .p (.bool v1.1.Sized) :: .p (.bool v1.1.Items) :: []) :: .dead :: .dead :: .dead :: .cells (iI y50.v.Kind :: iW y50.v.N' :: iS y50.v.Text :: .p (.slice 4 (Q0.rows y50.v.Items)) :: .p (.slice 7 (Q1.rows y50.kids)) :: iI y50.element :: iI y50.inner :: []) :: .cells (X3 (cI .u8) v52.2.buffer.b) :: []), .tuple [], ⟨(rE rfl <| rF (Frz.agg' (.cons (.p _) (.cons (.p _) p5))) <| rN), (hE rfl <| hO rfl <| hN), rfl, rfl, (roE rfl <| roE (Qa _ _ _) <| roN), rfl, (fR 0 rfl rfl rfl rfl <| fD <| fK rfl rfl <| fK rfl rfl <| fD <| fD <| fD <| fK rfl rfl <| fO 2 rfl rfl rfl <| fN), rfl⟩, ?_⟩
     show Exists _
     exact ⟨(n1, (IntKind.wrap .i64 (s47 + 1)), v52.2.buffer.b), h, Nat.lt_succ_self _, (rho [0, 1, 2, 3, 4, 5, 8]), ⟨(rE rfl <| rV <| rE rfl <| rE rfl <| rX <| rX <| rX <| rX <| rX <| rX <| rX <| rA <| rE rfl <| rE rfl <| rE rfl <| rX <| rV <| rW <| rA <| rN), (hE rfl <| hD <| hE rfl <| hE rfl <| hD <| hD <| hO rfl <| hN), rfl, rfl, (roE rfl <| roE rfl <| roE rfl <| roE rfl <| roE rfl <| roE rfl <| roE (Qa _ _ _) <| roN)⟩⟩
    ·obtain rfl := Zn h
     show Exists _
     exact ⟨(rho [0, 1, 6]), ⟨(rE rfl <| rN), (hE rfl <| hD <| hO rfl <| hN), rfl, rfl, (roE rfl <| roE rfl <| roE (Qa _ _ _) <| roN)⟩⟩
  ·refine ifO h (fun hc54 h => ?_) (fun hc54 h => ?_)
   ·refine Jq 5 rfl rfl ?_
    refine cG h Yj fun v55 h => ?_
    refine ⟨rho [0, 1], (.cells (.slice 1 4 0 v55.2.b.length :: []) :: .dead :: .cells (iI f.v.Kind :: iW f.v.N' :: iS f.v.Text :: .p (.slice 4 (Q0.rows f.v.Items)) :: .p (.slice 7 (Q1.rows f.kids)) :: iI f.element :: iI f.inner :: []) :: .cells (iI v1.1.Code :: iI v1.1.Kind :: iI v1.1.Width :: .p (.bool v1.1.Sized) :: .p (.bool v1.1.Items) :: []) :: .cells (X3 (cI .u8) v55.2.b) :: []), .tuple [], ⟨(rE rfl <| rE rfl <| rE rfl <| rN), (hE rfl <| hO rfl <| hN), rfl, rfl, (roE rfl <| roE (Qa _ _ _) <| roN), rfl, (fR 0 rfl rfl rfl rfl <| fD <| fK rfl rfl <| fK rfl rfl <| fO 2 rfl rfl rfl <| fN), rfl⟩, ?_⟩
    refine lpC (τ := Int × (List Int)) (fun ⟨s69, _⟩ => (.ptr 0 0 :: a4 (.ptr 2 0 :: .ptr 3 0 :: a16 (a16 (a16 (a8 (.any :: .p (.slice 7 (Q1.rows f.kids)) :: iI ((Q1.rows f.kids).length : Int) :: iI s69 :: a8 (a4 (a2 (.any :: [])))))))) : List AV)) (fun ⟨_, l70⟩ => (.cells (.slice 1 5 0 l70.length :: []) :: .dead :: .cells (iI f.v.Kind :: iW f.v.N' :: iS f.v.Text :: .p (.slice 4 (Q0.rows f.v.Items)) :: .p (.slice 7 (Q1.rows f.kids)) :: iI f.element :: iI f.inner :: []) :: .cells (iI v1.1.Code :: iI v1.1.Kind :: iI v1.1.Width :: .p (.bool v1.1.Sized) :: .p (.bool v1.1.Items) :: []) :: .dead :: .cells (X3 (cI .u8) l70) :: [] : List AObj)) (fun n2 ⟨s69, l70⟩ => We ry1 N f n2 s69 l70) (0, v55.2.b) h (rho [0, 1, 2, 3, 4, 4]) ⟨(rE rfl <| rV <| rE rfl <| rE rfl <| rX <| rX <| rX <| rX <| rX <| rX <| rX <| rA <| rE rfl <| rE rfl <| rE rfl <| rX <| rV <| rW <| rA <| rN), (hE rfl <| hD <| hE rfl <| hE rfl <| hD <| hO rfl <| hN), rfl, rfl, (roE rfl <| roE rfl <| roE rfl <| roE rfl <| roE rfl <| roE (Qa _ _ _) <| roN)⟩ fun n2 ⟨s69, l70⟩ h => ?_
    simp only [We] at h
    apply iU h <;> intro h
    ·refine Q1.xR h fun y72 h => ?_
     refine ifT hc54 ?_
     refine cG h hy3 fun v74 h => ?_
     refine ⟨rho [0, 5], (.cells (.slice 1 7 0 v74.2.buffer.b.length :: []) :: .dead :: .cells (iI f.v.Kind :: iW f.v.N' :: iS f.v.Text :: .p (.slice 4 (Q0.rows f.v.Items)) :: .p (.slice 7 (Q1.rows f.kids)) :: iI f.element :: iI f.inner :: []) :: .cells (iI v1.1.Code :: iI v1.1.Kind :: iI v1.1.Width :: .p (.bool v1.1.Sized) :: .p (.bool v1.1.Items) :: []) :: .dead :: .dead :: .cells (iI y72.v.Kind :: iW y72.v.N' :: iS y72.v.Text :: .p (.slice 4 (Q0.rows y72.v.Items)) :: .p (.slice 7 (Q1.rows y72.kids)) :: iI y72.element :: iI y72.inner :: []) :: .cells (X3 (cI .u8) v74.2.buffer.b) :: []), .tuple [], ⟨(rE rfl <| rE rfl <| rF (Frz.agg' (.cons (.p _) (.cons (.p _) p5))) <| rN), (hE rfl <| hO rfl <| hN), rfl, rfl, (roE rfl <| roE (Qa _ _ _) <| roN), rfl, (fR 0 rfl rfl rfl rfl <| fD <| fK rfl rfl <| fK rfl rfl <| fD <| fD <| fK rfl rfl <| fO 2 rfl rfl rfl <| fN), rfl⟩, ?_⟩
     show Exists _
     exact ⟨(n2, (IntKind.wrap .i64 (s69 + 1)), v74.2.buffer.b), h, Nat.lt_succ_self _, (rho [0, 1, 2, 3, 4, 7]), ⟨(rE rfl <| rV <| rE rfl <| rE rfl <| rX <| rX <| rX <| rX <| rX <| rX <| rX <| rA <| rE rfl <| rE rfl <| rE rfl <| rX <| rV <| rW <| rA <| rN), (hE rfl <| hD <| hE rfl <| hE rfl <| hD <| hO rfl <| hN), rfl, rfl, (roE rfl <| roE rfl <| roE rfl <| roE rfl <| roE rfl <| roE (Qa _ _ _) <| roN)⟩⟩
    ·obtain rfl := Zn h
     show Exists _
     exact ⟨(rho [0, 1, 5]), ⟨(rE rfl <| rN), (hE rfl <| hD <| hO rfl <| hN), rfl, rfl, (roE rfl <| roE rfl <| roE (Qa _ _ _) <| roN)⟩⟩
   ·refine lpC (τ := Int × (List Int)) (fun ⟨s88, _⟩ => (.ptr 0 0 :: a4 (.ptr 2 0 :: .ptr 3 0 :: a16 (a16 (a16 (a8 (.any :: .p (.slice 7 (Q1.rows f.kids)) :: iI ((Q1.rows f.kids).length : Int) :: iI s88 :: a8 (a4 (a2 (.any :: [])))))))) : List AV)) (fun ⟨_, l89⟩ => (.cells (.slice 1 4 0 l89.length :: []) :: .dead :: .cells (iI f.v.Kind :: iW f.v.N' :: iS f.v.Text :: .p (.slice 4 (Q0.rows f.v.Items)) :: .p (.slice 7 (Q1.rows f.kids)) :: iI f.element :: iI f.inner :: []) :: .cells (iI v1.1.Code :: iI v1.1.Kind :: iI v1.1.Width :: .p (.bool v1.1.Sized) :: .p (.bool v1.1.Items) :: []) :: .cells (X3 (cI .u8) l89) :: [] : List AObj)) (fun n3 ⟨s88, l89⟩ => Zw rx1 N f n3 s88 l89) (0, w.buffer.b) h (rho [0, 1, 2, 3, 1]) ⟨(rE rfl <| rV <| rE rfl <| rE rfl <| rX <| rX <| rX <| rX <| rX <| rX <| rX <| rA <| rE rfl <| rE rfl <| rE rfl <| rX <| rV <| rW <| rA <| rN), (hE rfl <| hD <| hE rfl <| hE rfl <| hO rfl <| hN), rfl, rfl, (roE rfl <| roE rfl <| roE rfl <| roE rfl <| roE (Qa _ _ _) <| roN)⟩ fun n3 ⟨s88, l89⟩ h => ?_
    simp only [Zw] at h
    apply iU h <;> intro h
    ·refine Q1.xR h fun y91 h => ?_
     refine ifF hc54 ?_
     refine cG h hx3 fun v93 h => ?_
     refine ⟨rho [0, 4], (.cells (.slice 1 6 0 v93.2.buffer.b.length :: []) :: .dead :: .cells (iI f.v.Kind :: iW f.v.N' :: iS f.v.Text :: .p (.slice 4 (Q0.rows f.v.Items)) :: .p (.slice 7 (Q1.rows f.kids)) :: iI f.element :: iI f.inner :: []) :: .cells (iI v1.1.Code :: iI v1.1.Kind :: iI v1.1.Width :: .p (.bool v1.1.Sized) :: .p (.bool v1.1.Items) :: []) :: .dead :: .cells (iI y91.v.Kind :: iW y91.v.N' :: iS y91.v.Text :: .p (.slice 4 (Q0.rows y91.v.Items)) :: .p (.slice 7 (Q1.rows y91.kids)) :: iI y91.element :: iI y91.inner :: []) :: .cells (X3 (cI .u8) v93.2.buffer.b) :: []), .tuple [], ⟨(rE rfl <| rF (Frz.agg' (.cons (.p _) (.cons (.p _) p5))) <| rN), (hE rfl <| hO rfl <| hN), rfl, rfl, (roE rfl <| roE (Qa _ _ _) <| roN), rfl, (fR 0 rfl rfl rfl rfl <| fD <| fK rfl rfl <| fK rfl rfl <| fD <| fK rfl rfl <| fO 2 rfl rfl rfl <| fN), rfl⟩, ?_⟩
     show Exists _
     exact ⟨(n3, (IntKind.wrap .i64 (s88 + 1)), v93.2.buffer.b), h, Nat.lt_succ_self _, (rho [0, 1, 2, 3, 6]), ⟨(rE rfl <| rV <| rE rfl <| rE rfl <| rX <| rX <| rX <| rX <| rX <| rX <| rX <| rA <| rE rfl <| rE rfl <| rE rfl <| rX <| rV <| rW <| rA <| rN), (hE rfl <| hD <| hE rfl <| hE rfl <| hO rfl <| hN), rfl, rfl, (roE rfl <| roE rfl <| roE rfl <| roE rfl <| roE (Qa _ _ _) <| roN)⟩⟩
    ·obtain rfl := Zn h
     show Exists _
     exact ⟨(rho [0, 1, 4]), ⟨(rE rfl <| rN), (hE rfl <| hD <| hO rfl <| hN), rfl, rfl, (roE rfl <| roE rfl <| roE (Qa _ _ _) <| roN)⟩⟩
def Qr : Nat → (Q2 → Q1 → Option ((Unit) × Q2)) × (Q2 → Int → Q1 → Option ((Unit) × Q2))
 | 0 => (fun _ _ => none, fun _ _ _ => none)
 | N + 1 => (Xp ((Qr N).1) ((Qr N).2) N, Y4 ((Qr N).1) ((Qr N).2) N)
def Z0 (N : Nat) : Q2 → Q1 → Option ((Unit) × Q2) := (Qr N).1
def X6 (N : Nat) : Q2 → Int → Q1 → Option ((Unit) × Q2) := (Qr N).2
theorem Q0w : ∀ N, (∀ {w : Q2} {f : Q1} {r : (Unit) × Q2}, (Qr N).1 w f = some r → GC Tryz.prog G1 62 (.ptr 0 0 :: .p (.agg (Q1.cells f)) :: []) (.cells (.slice 1 1 0 w.buffer.b.length :: []) :: .cells (X3 (cI .u8) w.buffer.b) :: []) (.tuple []) (.cells (.slice 1 2 0 r.2.buffer.b.length :: []) :: .dead :: .cells (X3 (cI .u8) r.2.buffer.b) :: [])) ∧ (∀ {w : Q2} {code : Int} {f : Q1} {r : (Unit) × Q2}, (Qr N).2 w code f = some r → GC Tryz.prog G1 93 (.ptr 0 0 :: .p (.int .i64 code) :: .p (.agg (Q1.cells f)) :: []) (.cells (.slice 1 1 0 w.buffer.b.length :: []) :: .cells (X3 (cI .u8) w.buffer.b) :: []) (.tuple []) (.cells (.slice 1 2 0 r.2.buffer.b.length :: []) :: .dead :: .cells (X3 (cI .u8) r.2.buffer.b) :: [])) := by
 intro N
 induction N with
 | zero => exact ⟨(fun h => by simp [Qr] at h), (fun h => by simp [Qr] at h)⟩
 | succ N ih => exact ⟨(fun h => Q0t (N := N) (fun h => ih.1 h) (fun h => ih.2 h) h), (fun h => Q1b (N := N) (fun h => ih.1 h) (fun h => ih.2 h) h)⟩
theorem Q0x {N : Nat} {w : Q2} {f : Q1} {r : (Unit) × Q2} (h : Z0 N w f = some r) : GC Tryz.prog G1 62 (.ptr 0 0 :: .p (.agg (Q1.cells f)) :: []) (.cells (.slice 1 1 0 w.buffer.b.length :: []) :: .cells (X3 (cI .u8) w.buffer.b) :: []) (.tuple []) (.cells (.slice 1 2 0 r.2.buffer.b.length :: []) :: .dead :: .cells (X3 (cI .u8) r.2.buffer.b) :: []) := (Q0w N).1 h
def Yy (rv : Q1 → Int → Option (Int)) (rz1 : Q1 → Option (Int)) (N : Nat) (f : Q1) (code : Int) : Option (Int) :=
 (X2 N code).bind fun v1 =>
 cond (Q8 .eql v1.1.Kind 25)
 ((rz1 f).bind fun v4 =>
 some v4)
 (cond v1.1.Items
 (cond v1.1.Sized
 (some (IntKind.wrap .i64 ((IntKind.wrap .i64 (2 * v1.1.Width)) + f.inner)))
 (some v1.1.Width))
 (cond v1.1.Sized
 (some (IntKind.wrap .i64 (v1.1.Width + (f.v.Text.length : Int))))
 (some v1.1.Width)))
theorem Q2q {rv : Q1 → Int → Option (Int)} {rz1 : Q1 → Option (Int)} (hx2 : ∀ {f} {code} {r}, rv f code = some r → Zo Tryz.prog G1 74 [.agg (Q1.cells f), .int .i64 code] (.int .i64 r)) (hv2 : ∀ {f} {r}, rz1 f = some r → Zo Tryz.prog G1 94 [.agg (Q1.cells f)] (.int .i64 r)) {N} {f} {code} {r} (h : Yy rv rz1 N f code = some r) : Zo Tryz.prog G1 74 [.agg (Q1.cells f), .int .i64 code] (.int .i64 r) := by
 refine Q3 k74 ?_
 unfold Yy at h
 refine cP h Uu p1 fun v1 h => ?_
 apply iU h <;> intro h
 ·refine cP h hv2 (.cons (Frz.agg' (.cons (.p _) (.cons (.p _) p5))) .nil) fun v4 h => ?_
  cases h; exact (.p _)
 ·apply iU h <;> intro h
  ·refine ifO h (fun hc7 h => ?_) (fun hc7 h => ?_)
   ·cases h; exact (.p _)
   ·refine ifF hc7 ?_
    cases h; exact (.p _)
  ·apply iU h <;> intro h
   ·cases h; exact (.p _)
   ·cases h; exact (.p _)
def Y6 (rv : Q1 → Int → Option (Int)) (N : Nat) (f : Q1) : Nat → Int → Int → Option (Int)
 | 0, _, _ => none
 | n + 1, n17, s18 =>
  cond (Q8 .lss s18 ((Q1.rows f.kids).length : Int))
  ((idx f.kids s18).bind fun y20 =>
  (Yw N y20).bind fun v22 =>
  (rv y20 v22).bind fun v24 =>
  Y6 rv N f n (IntKind.wrap .i64 (n17 + (IntKind.wrap .i64 (1 + v24)))) (IntKind.wrap .i64 (s18 + 1)))
  (some n17)
def Uq (rv : Q1 → Int → Option (Int)) (rz1 : Q1 → Option (Int)) (N : Nat) (f : Q1) : Option (Int) :=
 Y6 rv N f N 0 0
theorem Q1z {rv : Q1 → Int → Option (Int)} {rz1 : Q1 → Option (Int)} (hx2 : ∀ {f} {code} {r}, rv f code = some r → Zo Tryz.prog G1 74 [.agg (Q1.cells f), .int .i64 code] (.int .i64 r)) (hv2 : ∀ {f} {r}, rz1 f = some r → Zo Tryz.prog G1 94 [.agg (Q1.cells f)] (.int .i64 r)) {N} {f} {r} (h : Uq rv rz1 N f = some r) : Zo Tryz.prog G1 94 [.agg (Q1.cells f)] (.int .i64 r) := by
 refine Q3 k94 ?_
 unfold Uq at h
 refine lpC (τ := Int × Int) (fun ⟨n17, s18⟩ => (a2 (.any :: iI n17 :: a2 (.any :: .p (.slice 7 (Q1.rows f.kids)) :: iI ((Q1.rows f.kids).length : Int) :: iI s18 :: a8 (a4 ([])))) : List AV)) (fun ⟨_, _⟩ => (.cells (iI f.v.Kind :: iW f.v.N' :: iS f.v.Text :: .p (.slice 4 (Q0.rows f.v.Items)) :: .p (.slice 7 (Q1.rows f.kids)) :: iI f.element :: iI f.inner :: []) :: [] : List AObj)) (fun n0 ⟨n17, s18⟩ => Y6 rv N f n0 n17 s18) (0, 0) h (fun i => i) ⟨(rW <| rA <| rE rfl <| rW <| rA <| rE rfl <| rE rfl <| rE rfl <| rX <| rV <| rN), (hE rfl <| hN), rfl, rfl, (roE rfl <| roN)⟩ fun n0 ⟨n17, s18⟩ h => ?_
 simp only [Y6] at h
 apply iU h <;> intro h
 ·refine Q1.xR h fun y20 h => ?_
  refine Qx ?_
  refine cD h U4 (.cons (Frz.agg' (.cons (.p _) (.cons (.p _) p5))) .nil) fun v22 h => ?_
  refine cD h hx2 (.cons (Frz.agg' (.cons (.p _) (.cons (.p _) p5))) p1) fun v24 h => ?_
  show Exists _
  exact ⟨(n0, (IntKind.wrap .i64 (n17 + (IntKind.wrap .i64 (1 + v24)))), (IntKind.wrap .i64 (s18 + 1))), h, Nat.lt_succ_self _, (fun i => i), ⟨(rW <| rA <| rE rfl <| rW <| rA <| rE rfl <| rE rfl <| rE rfl <| rX <| rV <| rN), (hE rfl <| hN), rfl, rfl, (roE rfl <| roN)⟩⟩
 ·cases h; exact (.p _)
def Z8 : Nat → (Q1 → Int → Option (Int)) × (Q1 → Option (Int))
 | 0 => (fun _ _ => none, fun _ => none)
 | N + 1 => (Yy ((Z8 N).1) ((Z8 N).2) N, Uq ((Z8 N).1) ((Z8 N).2) N)
def Zj (N : Nat) : Q1 → Int → Option (Int) := (Z8 N).1
def Zb (N : Nat) : Q1 → Option (Int) := (Z8 N).2
theorem G6 : ∀ N, (∀ {f : Q1} {code : Int} {r : Int}, (Z8 N).1 f code = some r → Zo Tryz.prog G1 74 [.agg (Q1.cells f), .int .i64 code] (.int .i64 r)) ∧ (∀ {f : Q1} {r : Int}, (Z8 N).2 f = some r → Zo Tryz.prog G1 94 [.agg (Q1.cells f)] (.int .i64 r)) := by
 intro N
 induction N with
 | zero => exact ⟨(fun h => by simp [Z8] at h), (fun h => by simp [Z8] at h)⟩
 | succ N ih => exact ⟨(fun h => Q2q (N := N) (fun h => ih.1 h) (fun h => ih.2 h) h), (fun h => Q1z (N := N) (fun h => ih.1 h) (fun h => ih.2 h) h)⟩
theorem Jz {N : Nat} {f : Q1} {code : Int} {r : Int} (h : Zj N f code = some r) : Zo Tryz.prog G1 74 [.agg (Q1.cells f), .int .i64 code] (.int .i64 r) := (G6 N).1 h
theorem Ws {N : Nat} {f : Q1} {r : Int} (h : Zb N f = some r) : Zo Tryz.prog G1 94 [.agg (Q1.cells f)] (.int .i64 r) := (G6 N).2 h
def Y8 (N : Nat) (f : Q1) : Nat → Int → Int → Option (Int)
 | 0, _, _ => none
 | n + 1, n13, s14 =>
  cond (Q8 .lss s14 ((Q1.rows f.kids).length : Int))
  ((idx f.kids s14).bind fun y16 =>
  (Zj N y16 f.element).bind fun v18 =>
  Y8 N f n (IntKind.wrap .i64 (n13 + v18)) (IntKind.wrap .i64 (s14 + 1)))
  (some n13)
def Wi (N : Nat) (f : Q1) : Option (Int) :=
 Y8 N f N 1 0
theorem Jp {N} {f} {r} (h : Wi N f = some r) : Zo Tryz.prog G1 95 [.agg (Q1.cells f)] (.int .i64 r) := by
 refine Q3 k95 ?_
 unfold Wi at h
 refine lpC (τ := Int × Int) (fun ⟨n13, s14⟩ => (.any :: .ptr 0 0 :: .any :: iI n13 :: a2 (.any :: .p (.slice 7 (Q1.rows f.kids)) :: iI ((Q1.rows f.kids).length : Int) :: iI s14 :: a8 (a2 (.any :: []))) : List AV)) (fun ⟨_, _⟩ => (.cells (iI f.v.Kind :: iW f.v.N' :: iS f.v.Text :: .p (.slice 4 (Q0.rows f.v.Items)) :: .p (.slice 7 (Q1.rows f.kids)) :: iI f.element :: iI f.inner :: []) :: [] : List AObj)) (fun n0 ⟨n13, s14⟩ => Y8 N f n0 n13 s14) (1, 0) h (fun i => i) ⟨(rA <| rE rfl <| rA <| rE rfl <| rW <| rA <| rE rfl <| rE rfl <| rE rfl <| rX <| rW <| rA <| rN), (hE rfl <| hN), rfl, rfl, (roE rfl <| roN)⟩ fun n0 ⟨n13, s14⟩ h => ?_
 simp only [Y8] at h
 apply iU h <;> intro h
 ·refine Q1.xR h fun y16 h => ?_
  refine cP h Jz (.cons (Frz.agg' (.cons (.p _) (.cons (.p _) p5))) p1) fun v18 h => ?_
  show Exists _
  exact ⟨(n0, (IntKind.wrap .i64 (n13 + v18)), (IntKind.wrap .i64 (s14 + 1))), h, Nat.lt_succ_self _, (fun i => i), ⟨(rA <| rE rfl <| rA <| rE rfl <| rW <| rA <| rE rfl <| rE rfl <| rE rfl <| rX <| rW <| rA <| rN), (hE rfl <| hN), rfl, rfl, (roE rfl <| roN)⟩⟩
 ·cases h; exact (.p _)
end
end
end Go.Av
