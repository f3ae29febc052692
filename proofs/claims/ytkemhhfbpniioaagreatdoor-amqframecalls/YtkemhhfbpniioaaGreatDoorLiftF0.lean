/- The law. Part of a proof of a given statement: for every input the law returns true and the arguments read as before; no condition beyond the given row. -/
import Derived.Test.YtkemhhfbpniioaaGreatDoorLiftTy
import Derived.Test.YtkemhhfbpniioaaGreatDoorChks
import Derived.Test.YtkemhhfbpniioaaGreatDoorSeat1
import Derived.Test.YtkemhhfbpniioaaGreatDoorLiftG
import Derived.Test.YtkemhhfbpniioaaGreatDoorMans
namespace Go.Av
noncomputable section
open Go.Proofs
set_option maxRecDepth 100000
set_option maxHeartbeats 4000000
attribute [local irreducible] Gc V2 Q9e Qau Q5 Q3q Qce
section
def Ut (_N : Nat) (b : Z1) : Option ((List UInt8) × Z1) :=
 some ((b.b.map fun n => UInt8.ofNat n.toNat), b)
theorem Q3o {N} {b} {r} (h : Ut N b = some r) : GC Tryz.prog G1 64 (.ptr 0 0 :: []) (.cells (.slice 1 1 0 b.b.length :: []) :: .cells (Xj (cI .u8) b.b) :: []) (.p (.str r.1)) (.cells (.slice 1 2 0 r.2.b.length :: []) :: .dead :: .cells (Xj (cI .u8) r.2.b) :: []) := by
 refine Q4d k64 (Nat.le_of_ble_eq_true rfl) ?_
 unfold Ut at h
 refine Qpz (l := b.b) (by simp) ?_
 obtain rfl := Q8 h
 show Exists _
 exact ⟨(rho [0, 1, 1]), ⟨(rE rfl <| rN), (hE rfl <| hD <| hO rfl <| hN), rfl, rfl, (roE rfl <| roE rfl <| roE (Q9 _ _ _) <| roN)⟩⟩
def Ur (rz : Q0 → Option (Q0)) (N : Nat) (v : Q0) (c13 : Int) : Nat → Int → (List Q0) → Option (Q0)
 | 0, _, _ => none
 | n + 1, s39, l40 =>
  cond (Q5 .lss s39 ((Q0.rows v.Items).length : Int))
  ((idx v.Items s39).bind fun y42 =>
  (rz y42).bind fun v44 =>
  cond (Nat.ble ((l40.length + 1 + 4096) * 56) 17592186044416) (Ur rz N v c13 n (IntKind.wrap .i64 (s39 + 1)) (l40 ++ [v44])) none)
  (some (⟨v.Kind, c13, v.Text, l40⟩ : Q0))
def Wi (rz : Q0 → Option (Q0)) (N : Nat) (v : Q0) (c13 : Int) : Option (Q0) :=
 Ur rz N v c13 N 0 []
def Um (_N : Nat) (k0 : Int → Option (Q0)) (v : Q0) (s22 : Bool) : Option (Q0) :=
 cond s22
 (k0 9221120237041090560)
 (k0 v.N')
def Uv (N : Nat) (k0 : Int → Option (Q0)) (v : Q0) (s16 : Bool) : Option (Q0) :=
 cond s16
 (k0 2143289344)
 (cond (Q5 .eql v.Kind 12)
 (cond (Q5 .eql (Q2t .u64 (Q4e .u64 v.N' 52) 2047) 2047)
 (Um N k0 v (Q5 .neq (Q0d .u64 v.N' 12) 0))
 (Um N k0 v false))
 (Um N k0 v false))
def Q0a (rz : Q0 → Option (Q0)) (N : Nat) (v : Q0) : Option (Q0) :=
 cond (Q5 .eql v.Kind 11)
 (cond (Q5 .eql (Q2t .u64 (Q4e .u64 v.N' 23) 255) 255)
 (Uv N (Wi rz N v) v (Q5 .neq (Q0d .u64 v.N' 41) 0))
 (Uv N (Wi rz N v) v false))
 (Uv N (Wi rz N v) v false)
theorem Q9k {rz : Q0 → Option (Q0)} (hy2 : ∀ {v} {r}, rz v = some r → Z0 Tryz.prog G1 21 [.agg (Q0.cells v)] (.agg (Q0.cells r))) {N} {v} {r} (h : Q0a rz N v = some r) : Z0 Tryz.prog G1 21 [.agg (Q0.cells v)] (.agg (Q0.cells r)) := by
 refine Q3 k21 ?_
 unfold Q0a at h
 refine G6 (σ := Int) (fun _ => (.any :: .ptr 0 0 :: .ptr 1 0 :: .ptr 2 0 :: a16 (a16 (a16 (a8 (a4 (.any :: []))))) : List AV)) (fun c13 => (.cells (iI v.Kind :: iW v.N' :: iS v.Text :: .p (.slice 4 (Q0.rows v.Items)) :: []) :: .cells (iI 0 :: iW 0 :: iS [] :: .p .nilSlice :: []) :: .cells (iI v.Kind :: iW c13 :: iS v.Text :: .p .nilSlice :: []) :: [] : List AObj)) (fun c13 => Wi rz N v c13 = some r) (fun _ _ => lb) ?_ ?_
 ·refine G6 (σ := Bool) (fun s16 => (.any :: .ptr 0 0 :: .ptr 1 0 :: .ptr 2 0 :: a8 (.any :: .p (.bool s16) :: a16 (a16 (a16 (a2 (.any :: []))))) : List AV)) (fun _ => (.cells (iI v.Kind :: iW v.N' :: iS v.Text :: .p (.slice 4 (Q0.rows v.Items)) :: []) :: .cells (iI 0 :: iW 0 :: iS [] :: .p .nilSlice :: []) :: .cells (iI v.Kind :: iW v.N' :: iS v.Text :: .p .nilSlice :: []) :: [] : List AObj)) (fun s16 => Uv N (Wi rz N v) v s16 = some r) (fun _ _ => lb) ?_ ?_
  ·apply iU h <;> intro h
   ·apply iU h <;> intro h
    ·show Exists _
     exact ⟨((Q5 .neq (Q0d .u64 v.N' 41) 0)), h, (fun i => i), ⟨(rA <| rE rfl <| rE rfl <| rE rfl <| rX <| rA <| rE rfl <| rX <| rX <| rX <| rX <| rX <| rX <| rW <| rA <| rN), (hE rfl <| hE rfl <| hE rfl <| hN), rfl, rfl, (roE rfl <| roE rfl <| roE rfl <| roN)⟩⟩
    ·show Exists _
     exact ⟨(false), h, (fun i => i), ⟨(rA <| rE rfl <| rE rfl <| rE rfl <| rX <| rA <| rE rfl <| rX <| rX <| rX <| rX <| rX <| rX <| rW <| rA <| rN), (hE rfl <| hE rfl <| hE rfl <| hN), rfl, rfl, (roE rfl <| roE rfl <| roE rfl <| roN)⟩⟩
   ·show Exists _
    exact ⟨(false), h, (fun i => i), ⟨(rA <| rE rfl <| rE rfl <| rE rfl <| rX <| rA <| rE rfl <| rX <| rX <| rX <| rX <| rX <| rX <| rW <| rA <| rN), (hE rfl <| hE rfl <| hE rfl <| hN), rfl, rfl, (roE rfl <| roE rfl <| roE rfl <| roN)⟩⟩
  rintro s16 h
  dsimp only [Uv] at h
  apply iU h <;> intro h
  ·show Exists _
   exact ⟨(2143289344), h, (fun i => i), ⟨(rA <| rE rfl <| rE rfl <| rE rfl <| rX <| rX <| rX <| rX <| rX <| rX <| rX <| rV <| rA <| rN), (hE rfl <| hE rfl <| hE rfl <| hN), rfl, rfl, (roE rfl <| roE rfl <| roE rfl <| roN)⟩⟩
  ·refine G6 (σ := Bool) (fun s22 => (.any :: .ptr 0 0 :: .ptr 1 0 :: .ptr 2 0 :: a16 (a8 (a2 (.any :: .p (.bool s22) :: a16 (a16 (.any :: []))))) : List AV)) (fun _ => (.cells (iI v.Kind :: iW v.N' :: iS v.Text :: .p (.slice 4 (Q0.rows v.Items)) :: []) :: .cells (iI 0 :: iW 0 :: iS [] :: .p .nilSlice :: []) :: .cells (iI v.Kind :: iW v.N' :: iS v.Text :: .p .nilSlice :: []) :: [] : List AObj)) (fun s22 => Um N (Wi rz N v) v s22 = some r) (fun _ _ => lb) ?_ ?_
   ·apply iU h <;> intro h
    ·apply iU h <;> intro h
     ·show Exists _
      exact ⟨((Q5 .neq (Q0d .u64 v.N' 12) 0)), h, (fun i => i), ⟨(rA <| rE rfl <| rE rfl <| rE rfl <| rX <| rX <| rX <| rW <| rA <| rE rfl <| rX <| rX <| rX <| rX <| rA <| rN), (hE rfl <| hE rfl <| hE rfl <| hN), rfl, rfl, (roE rfl <| roE rfl <| roE rfl <| roN)⟩⟩
     ·show Exists _
      exact ⟨(false), h, (fun i => i), ⟨(rA <| rE rfl <| rE rfl <| rE rfl <| rX <| rX <| rX <| rW <| rA <| rE rfl <| rX <| rX <| rX <| rX <| rA <| rN), (hE rfl <| hE rfl <| hE rfl <| hN), rfl, rfl, (roE rfl <| roE rfl <| roE rfl <| roN)⟩⟩
    ·show Exists _
     exact ⟨(false), h, (fun i => i), ⟨(rA <| rE rfl <| rE rfl <| rE rfl <| rX <| rX <| rX <| rW <| rA <| rE rfl <| rX <| rX <| rX <| rX <| rA <| rN), (hE rfl <| hE rfl <| hE rfl <| hN), rfl, rfl, (roE rfl <| roE rfl <| roE rfl <| roN)⟩⟩
   rintro s22 h
   dsimp only [Um] at h
   apply iU h <;> intro h
   ·show Exists _
    exact ⟨(9221120237041090560), h, (fun i => i), ⟨(rA <| rE rfl <| rE rfl <| rE rfl <| rX <| rX <| rX <| rX <| rX <| rX <| rX <| rV <| rA <| rN), (hE rfl <| hE rfl <| hE rfl <| hN), rfl, rfl, (roE rfl <| roE rfl <| roE rfl <| roN)⟩⟩
   ·show Exists _
    exact ⟨(v.N'), h, (fun i => i), ⟨(rA <| rE rfl <| rE rfl <| rE rfl <| rX <| rX <| rX <| rX <| rX <| rX <| rX <| rV <| rA <| rN), (hE rfl <| hE rfl <| hE rfl <| hN), rfl, rfl, (roE rfl <| roE rfl <| roE rfl <| roN)⟩⟩
 rintro c13 h
 dsimp only [Wi] at h
 refine lpC (τ := Int × (List Q0)) (fun ⟨s39, _⟩ => (.any :: .any :: .ptr 1 0 :: .ptr 2 0 :: a16 (a16 (a8 (a4 (a2 (.p (.slice 4 (Q0.rows v.Items)) :: iI ((Q0.rows v.Items).length : Int) :: iI s39 :: a8 (a4 ([]))))))) : List AV)) (fun ⟨_, l40⟩ => (.cells (iI v.Kind :: iW v.N' :: iS v.Text :: .p (.slice 4 (Q0.rows v.Items)) :: []) :: .cells (iI 0 :: iW 0 :: iS [] :: .p .nilSlice :: []) :: .cells (iI v.Kind :: iW c13 :: iS v.Text :: .slice 4 3 0 l40.length :: []) :: .cells (Xj Q0.cells l40) :: [] : List AObj)) (fun n3 ⟨s39, l40⟩ => Ur rz N v c13 n3 s39 l40) (0, []) h (fun i => i) ⟨(rW <| rE rfl <| rE rfl <| rX <| rX <| rX <| rX <| rX <| rV <| rW <| rE rfl <| rE rfl <| rE rfl <| rX <| rV <| rN), (hE rfl <| hE rfl <| hC rfl (rE rfl <| rE rfl <| rE rfl <| rS <| rN) <| hV lb <| hN), rfl, rfl, (roE rfl <| roE rfl <| roE rfl <| roE (Q9 _ _ _) <| roN)⟩ fun n3 ⟨s39, l40⟩ h => ?_
 simp only [Ur] at h
 apply iU h <;> intro h
 ·refine Q0.xR h fun y42 h => ?_
  refine Qe ?_
  refine cD h hy2 (.cons q4 .nil) fun v44 h => ?_
  obtain ⟨hk46, h⟩ := Q38 h
  refine Q2a (X6 (c := Q0.cells) (e := 4) (fun _ => rfl) (by simp) hk46) ?_
  refine Vt (c := Q0.cells) [v44] rfl ?_
  show Exists _
  exact ⟨(n3, (IntKind.wrap .i64 (s39 + 1)), (l40 ++ [v44])), h, Nat.lt_succ_self _, (rho [0, 1, 2, 6]), ⟨(rW <| rE rfl <| rE rfl <| rX <| rX <| rX <| rX <| rX <| rV <| rW <| rE rfl <| rE rfl <| rE rfl <| rX <| rV <| rN), (hE rfl <| hE rfl <| hC rfl (rE rfl <| rE rfl <| rE rfl <| rL (by simp) rfl <| rN) <| hO rfl <| hN), rfl, rfl, (roE rfl <| roE rfl <| roE rfl <| roE (Q9 _ _ _) <| roN)⟩⟩
 ·obtain rfl := Q8 h; exact (Frz.agg' (.cons (.p _) (.cons (.p _) (.cons (.p _) (.cons (Q0.frz_own (l := l40) rfl trivial (by simp)) .nil)))))
def Ws : Nat → Q0 → Option (Q0)
 | 0 => fun _ => none
 | N + 1 => Q0a (Ws N) N
theorem Q1s {N} {v} {r} (h : Ws N v = some r) : Z0 Tryz.prog G1 21 [.agg (Q0.cells v)] (.agg (Q0.cells r)) := by
 induction N generalizing v r with
 | zero => simp [Ws] at h
 | succ N ih => exact Q9k (fun h => ih h) h
def Jj (_N : Nat) (kind : Int) : Option (Bool) :=
 cond (Q5 .eql kind 15)
 (some true)
 (cond (Q5 .eql kind 18)
 (some true)
 (cond (Q5 .eql kind 19)
 (some true)
 (cond (Q5 .eql kind 20)
 (some true)
 (cond (Q5 .eql kind 21)
 (some true)
 (some false)))))
theorem Q2y {N} {kind} {r} (h : Jj N kind = some r) : Z0 Tryz.prog G1 112 [.int .i64 kind] (.bool r) := by
 refine Q3 Z2z ?_
 unfold Jj at h
 refine ifO h (fun hc1 h => ?_) (fun hc1 h => ?_)
 ·refine ifT hc1 ?_
  cases h; exact (.p _)
 ·refine ifO h (fun hc2 h => ?_) (fun hc2 h => ?_)
  ·refine ifT hc2 ?_
   cases h; exact (.p _)
  ·refine ifO h (fun hc3 h => ?_) (fun hc3 h => ?_)
   ·refine ifT hc3 ?_
    cases h; exact (.p _)
   ·refine ifO h (fun hc4 h => ?_) (fun hc4 h => ?_)
    ·refine ifT hc4 ?_
     cases h; exact (.p _)
    ·apply iU h <;> intro h
     ·cases h; exact (.p _)
     ·cases h; exact (.p _)
def Qu (_N : Nat) (s_0 : List UInt8) : Option (Int) :=
 (idx s_0 0).bind fun b1 =>
 (idx s_0 1).bind fun b3 =>
 (idx s_0 2).bind fun b5 =>
 (idx s_0 3).bind fun b7 =>
 (idx s_0 4).bind fun b9 =>
 (idx s_0 5).bind fun b11 =>
 (idx s_0 6).bind fun b13 =>
 (idx s_0 7).bind fun b15 =>
 some (orI .u64 (orI .u64 (orI .u64 (orI .u64 (orI .u64 (orI .u64 (orI .u64 (IntKind.wrap .u64 (b1.toNat : Int)) (Q0d .u64 (IntKind.wrap .u64 (b3.toNat : Int)) 8)) (Q0d .u64 (IntKind.wrap .u64 (b5.toNat : Int)) 16)) (Q0d .u64 (IntKind.wrap .u64 (b7.toNat : Int)) 24)) (Q0d .u64 (IntKind.wrap .u64 (b9.toNat : Int)) 32)) (Q0d .u64 (IntKind.wrap .u64 (b11.toNat : Int)) 40)) (Q0d .u64 (IntKind.wrap .u64 (b13.toNat : Int)) 48)) (Q0d .u64 (IntKind.wrap .u64 (b15.toNat : Int)) 56))
theorem Ze {N} {s_0} {r} (h : Qu N s_0 = some r) : Z0 Tryz.prog G1 154 [.str s_0] (.int .u64 r) := by
 refine Q3 Z4n ?_
 unfold Qu at h
 refine Qe ?_
 refine xB h fun b1 h => ?_
 refine xB h fun b3 h => ?_
 refine xB h fun b5 h => ?_
 refine xB h fun b7 h => ?_
 refine xB h fun b9 h => ?_
 refine xB h fun b11 h => ?_
 refine xB h fun b13 h => ?_
 refine xB h fun b15 h => ?_
 cases h; exact (.p _)
def Zw (N : Nat) (k0 : (List UInt8) → Option (Bool)) : Nat → (List UInt8) → Option (Bool)
 | 0, _ => none
 | n + 1, s272 =>
  cond (Q5 .gtr (s272.length : Int) 32)
  ((Qu N s272).bind fun v274 =>
  cond (Nat.ble 8 s272.length && Nat.ble s272.length s272.length) ((Qu N ((s272.take s272.length).drop 8)).bind fun v277 =>
  cond (Nat.ble 16 s272.length && Nat.ble s272.length s272.length) ((Qu N ((s272.take s272.length).drop 16)).bind fun v280 =>
  cond (Nat.ble 24 s272.length && Nat.ble s272.length s272.length) ((Qu N ((s272.take s272.length).drop 24)).bind fun v283 =>
  cond (Q5 .eql (Q2t .u64 (orI .u64 (orI .u64 v274 v277) (orI .u64 v280 v283)) 9259542123273814144) 0)
  (cond (Nat.ble 32 s272.length && Nat.ble s272.length s272.length) (Zw N k0 n ((s272.take s272.length).drop 32)) none)
  (k0 s272)) none) none) none)
  (k0 s272)
def Qa (N : Nat) : Nat → (List UInt8) → Option (Bool)
 | 0, _ => none
 | n + 1, s224 =>
  cond (Q5 .gtr (s224.length : Int) 0)
  ((idx s224 0).bind fun b226 =>
  cond (Q5 .lss (b226.toNat : Int) 128)
  (cond (Nat.ble 1 s224.length && Nat.ble s224.length s224.length) (cond (Q5 .gtr (((s224.take s224.length).drop 1).length : Int) 8)
  ((Qu N ((s224.take s224.length).drop 1)).bind fun v231 =>
  cond (Q5 .eql (Q2t .u64 v231 9259542123273814144) 0)
  (cond (Nat.ble 8 (((s224.take s224.length).drop 1).length) && Nat.ble (((s224.take s224.length).drop 1).length) ((s224.take s224.length).drop 1).length) (cond (Q5 .gtr (((((s224.take s224.length).drop 1).take (((s224.take s224.length).drop 1).length)).drop 8).length : Int) 16)
  ((Qu N ((((s224.take s224.length).drop 1).take (((s224.take s224.length).drop 1).length)).drop 8)).bind fun v236 =>
  cond (Nat.ble 8 (((((s224.take s224.length).drop 1).take (((s224.take s224.length).drop 1).length)).drop 8).length) && Nat.ble (((((s224.take s224.length).drop 1).take (((s224.take s224.length).drop 1).length)).drop 8).length) ((((s224.take s224.length).drop 1).take (((s224.take s224.length).drop 1).length)).drop 8).length) ((Qu N ((((((s224.take s224.length).drop 1).take (((s224.take s224.length).drop 1).length)).drop 8).take (((((s224.take s224.length).drop 1).take (((s224.take s224.length).drop 1).length)).drop 8).length)).drop 8)).bind fun v239 =>
  cond (Q5 .eql (Q2t .u64 (orI .u64 v236 v239) 9259542123273814144) 0)
  (cond (Nat.ble 16 (((((s224.take s224.length).drop 1).take (((s224.take s224.length).drop 1).length)).drop 8).length) && Nat.ble (((((s224.take s224.length).drop 1).take (((s224.take s224.length).drop 1).length)).drop 8).length) ((((s224.take s224.length).drop 1).take (((s224.take s224.length).drop 1).length)).drop 8).length) (Zw N (Qa N n) N ((((((s224.take s224.length).drop 1).take (((s224.take s224.length).drop 1).length)).drop 8).take (((((s224.take s224.length).drop 1).take (((s224.take s224.length).drop 1).length)).drop 8).length)).drop 16)) none)
  (Qa N n ((((s224.take s224.length).drop 1).take (((s224.take s224.length).drop 1).length)).drop 8))) none)
  (Qa N n ((((s224.take s224.length).drop 1).take (((s224.take s224.length).drop 1).length)).drop 8))) none)
  (Qa N n ((s224.take s224.length).drop 1)))
  (Qa N n ((s224.take s224.length).drop 1))) none)
  ((idx gtab0 (b226.toNat : Int)).bind fun y287 =>
  (idx gtab1 (Q4e .u8 y287 4)).bind fun y289 =>
  cond (Q5 .eql (IntKind.wrap .i64 (Q2t .u8 y287 7)) 2)
  (cond (Q5 .lss (s224.length : Int) 2)
  (some false)
  ((idx s224 1).bind fun b293 =>
  cond (Q5 .lss (b293.toNat : Int) y289.1)
  (some false)
  ((idx s224 1).bind fun b296 =>
  cond (Q5 .lss y289.2 (b296.toNat : Int))
  (some false)
  (cond (Nat.ble 2 s224.length && Nat.ble s224.length s224.length) (Qa N n ((s224.take s224.length).drop 2)) none))))
  (cond (Q5 .eql (IntKind.wrap .i64 (Q2t .u8 y287 7)) 3)
  (cond (Q5 .lss (s224.length : Int) 3)
  (some false)
  ((idx s224 1).bind fun b302 =>
  cond (Q5 .lss (b302.toNat : Int) y289.1)
  (some false)
  ((idx s224 1).bind fun b305 =>
  cond (Q5 .lss y289.2 (b305.toNat : Int))
  (some false)
  ((idx s224 2).bind fun b308 =>
  cond (Q5 .lss (b308.toNat : Int) 128)
  (some false)
  ((idx s224 2).bind fun b311 =>
  cond (Q5 .lss 191 (b311.toNat : Int))
  (some false)
  (cond (Nat.ble 3 s224.length && Nat.ble s224.length s224.length) (Qa N n ((s224.take s224.length).drop 3)) none))))))
  (cond (Q5 .eql (IntKind.wrap .i64 (Q2t .u8 y287 7)) 4)
  (cond (Q5 .lss (s224.length : Int) 4)
  (some false)
  ((idx s224 1).bind fun b317 =>
  cond (Q5 .lss (b317.toNat : Int) y289.1)
  (some false)
  ((idx s224 1).bind fun b320 =>
  cond (Q5 .lss y289.2 (b320.toNat : Int))
  (some false)
  ((idx s224 2).bind fun b323 =>
  cond (Q5 .lss (b323.toNat : Int) 128)
  (some false)
  ((idx s224 2).bind fun b326 =>
  cond (Q5 .lss 191 (b326.toNat : Int))
  (some false)
  ((idx s224 3).bind fun b329 =>
  cond (Q5 .lss (b329.toNat : Int) 128)
  (some false)
  ((idx s224 3).bind fun b332 =>
  cond (Q5 .lss 191 (b332.toNat : Int))
  (some false)
  (cond (Nat.ble 4 s224.length && Nat.ble s224.length s224.length) (Qa N n ((s224.take s224.length).drop 4)) none))))))))
  (some false)))))
  (some true)
def Vq (N : Nat) (s_0 : List UInt8) : Option (Bool) :=
 Qa N N s_0
theorem Q2u {N} {s_0} {r} (h : Vq N s_0 = some r) : Z0 Tryz.prog G1 132 [.str s_0] (.bool r) := by
 refine Q3 Z2m ?_
 unfold Vq at h
 refine lpC (τ := (List UInt8)) (fun s224 => (iS s224 :: a16 (a16 (a16 (a16 (a16 (a16 (a16 (a16 (a16 (a16 (a8 ([]))))))))))) : List AV)) (fun _ => ([] : List AObj)) (fun n0 s224 => Qa N n0 s224) (s_0) h (fun i => i) ⟨(rE rfl <| rX <| rX <| rX <| rX <| rX <| rX <| rX <| rX <| rX <| rX <| rX <| rX <| rX <| rX <| rX <| rX <| rX <| rX <| rX <| rX <| rX <| rN), (hN), rfl, rfl, (roN)⟩ fun n0 s224 h => ?_
 simp only [Qa] at h
 apply iU h <;> intro h
 ·refine xB h fun b226 h => ?_
  apply iU h <;> intro h
  ·refine kU h fun h => ?_
   apply iU h <;> intro h
   ·refine cP h Ze p1 fun v231 h => ?_
    apply iU h <;> intro h
    ·refine kU h fun h => ?_
     refine Qe ?_
     apply iU h <;> intro h
     ·refine cD h Ze p1 fun v236 h => ?_
      refine kU h fun h => ?_
      refine cD h Ze p1 fun v239 h => ?_
      apply iU h <;> intro h
      ·refine kU h fun h => ?_
       refine lpC (τ := (List UInt8)) (fun s272 => (iS s272 :: a16 (a16 (a16 (a16 (a16 (a16 (a16 (a16 (a16 (a16 (a8 ([]))))))))))) : List AV)) (fun _ => ([] : List AObj)) (fun n1 s272 => Zw N (Qa N n0) n1 s272) (((((((s224.take s224.length).drop 1).take (((s224.take s224.length).drop 1).length)).drop 8).take (((((s224.take s224.length).drop 1).take (((s224.take s224.length).drop 1).length)).drop 8).length)).drop 16)) h (fun i => i) ⟨(rE rfl <| rX <| rX <| rX <| rX <| rX <| rX <| rX <| rX <| rX <| rX <| rX <| rX <| rX <| rX <| rX <| rX <| rX <| rX <| rX <| rX <| rX <| rN), (hN), rfl, rfl, (roN)⟩ fun n1 s272 h => ?_
       simp only [Zw] at h
       refine Qe ?_
       apply iU h <;> intro h
       ·refine cD h Ze p1 fun v274 h => ?_
        refine kU h fun h => ?_
        refine cD h Ze p1 fun v277 h => ?_
        refine kU h fun h => ?_
        refine cD h Ze p1 fun v280 h => ?_
        refine kU h fun h => ?_
        refine cD h Ze p1 fun v283 h => ?_
        apply iU h <;> intro h
        ·refine kU h fun h => ?_
         show Exists _
         exact ⟨(n1, ((s272.take s272.length).drop 32)), h, Nat.lt_succ_self _, (fun i => i), ⟨(rE rfl <| rX <| rX <| rX <| rX <| rX <| rX <| rX <| rX <| rX <| rX <| rX <| rX <| rX <| rX <| rX <| rX <| rX <| rX <| rX <| rX <| rX <| rN), (hN), rfl, rfl, (roN)⟩⟩
        ·show Exists _
         exact ⟨(n0, s272), h, Nat.lt_succ_self _, (fun i => i), ⟨(rE rfl <| rX <| rX <| rX <| rX <| rX <| rX <| rX <| rX <| rX <| rX <| rX <| rX <| rX <| rX <| rX <| rX <| rX <| rX <| rX <| rX <| rX <| rN), (hN), rfl, rfl, (roN)⟩⟩
       ·show Exists _
        exact ⟨(n0, s272), h, Nat.lt_succ_self _, (fun i => i), ⟨(rE rfl <| rX <| rX <| rX <| rX <| rX <| rX <| rX <| rX <| rX <| rX <| rX <| rX <| rX <| rX <| rX <| rX <| rX <| rX <| rX <| rX <| rX <| rN), (hN), rfl, rfl, (roN)⟩⟩
      ·show Exists _
       exact ⟨(n0, ((((s224.take s224.length).drop 1).take (((s224.take s224.length).drop 1).length)).drop 8)), h, Nat.lt_succ_self _, (fun i => i), ⟨(rE rfl <| rX <| rX <| rX <| rX <| rX <| rX <| rX <| rX <| rX <| rX <| rX <| rX <| rX <| rX <| rX <| rX <| rX <| rX <| rX <| rX <| rX <| rN), (hN), rfl, rfl, (roN)⟩⟩
     ·show Exists _
      exact ⟨(n0, ((((s224.take s224.length).drop 1).take (((s224.take s224.length).drop 1).length)).drop 8)), h, Nat.lt_succ_self _, (fun i => i), ⟨(rE rfl <| rX <| rX <| rX <| rX <| rX <| rX <| rX <| rX <| rX <| rX <| rX <| rX <| rX <| rX <| rX <| rX <| rX <| rX <| rX <| rX <| rX <| rN), (hN), rfl, rfl, (roN)⟩⟩
    ·show Exists _
     exact ⟨(n0, ((s224.take s224.length).drop 1)), h, Nat.lt_succ_self _, (fun i => i), ⟨(rE rfl <| rX <| rX <| rX <| rX <| rX <| rX <| rX <| rX <| rX <| rX <| rX <| rX <| rX <| rX <| rX <| rX <| rX <| rX <| rX <| rX <| rX <| rN), (hN), rfl, rfl, (roN)⟩⟩
   ·show Exists _
    exact ⟨(n0, ((s224.take s224.length).drop 1)), h, Nat.lt_succ_self _, (fun i => i), ⟨(rE rfl <| rX <| rX <| rX <| rX <| rX <| rX <| rX <| rX <| rX <| rX <| rX <| rX <| rX <| rX <| rX <| rX <| rX <| rX <| rX <| rX <| rX <| rN), (hN), rfl, rfl, (roN)⟩⟩
  ·obtain ⟨y287, hy288, h⟩ := Q3c h
   refine Q2a (Qhd hy288 Qrm) ?_
   refine Qrz (c := (cI .u8)) (e := 1) (fun _ => rfl) Qu3 hy288 (off := 0) (by decide) (by first | omega | (simp only [Q2t, orI, Qzq, Qgw, Q0d, Q4e]; omega)) ?_
   obtain ⟨y289, hy290, h⟩ := Q3c h
   refine Q2a (Qhd hy290 Qqk) ?_
   refine Qrz (c := cUU) (e := 2) (fun _ => rfl) Qub hy290 (off := 0) (by decide) (by first | omega | (simp only [Q2t, orI, Qzq, Qgw, Q0d, Q4e]; omega)) ?_
   apply iU h <;> intro h
   ·refine Qe ?_
    apply iU h <;> intro h
    ·cases h; exact (.p _)
    ·refine xB h fun b293 h => ?_
     apply iU h <;> intro h
     ·cases h; exact (.p _)
     ·refine xB h fun b296 h => ?_
      apply iU h <;> intro h
      ·cases h; exact (.p _)
      ·refine kU h fun h => ?_
       show Exists _
       exact ⟨(n0, ((s224.take s224.length).drop 2)), h, Nat.lt_succ_self _, (fun i => i), ⟨(rE rfl <| rX <| rX <| rX <| rX <| rX <| rX <| rX <| rX <| rX <| rX <| rX <| rX <| rX <| rX <| rX <| rX <| rX <| rX <| rX <| rX <| rX <| rN), (hN), rfl, rfl, (roN)⟩⟩
   ·apply iU h <;> intro h
    ·refine Qe ?_
     apply iU h <;> intro h
     ·cases h; exact (.p _)
     ·refine xB h fun b302 h => ?_
      apply iU h <;> intro h
      ·cases h; exact (.p _)
      ·refine xB h fun b305 h => ?_
       apply iU h <;> intro h
       ·cases h; exact (.p _)
       ·refine xB h fun b308 h => ?_
        apply iU h <;> intro h
        ·cases h; exact (.p _)
        ·refine xB h fun b311 h => ?_
         apply iU h <;> intro h
         ·cases h; exact (.p _)
         ·refine kU h fun h => ?_
          show Exists _
          exact ⟨(n0, ((s224.take s224.length).drop 3)), h, Nat.lt_succ_self _, (fun i => i), ⟨(rE rfl <| rX <| rX <| rX <| rX <| rX <| rX <| rX <| rX <| rX <| rX <| rX <| rX <| rX <| rX <| rX <| rX <| rX <| rX <| rX <| rX <| rX <| rN), (hN), rfl, rfl, (roN)⟩⟩
    ·apply iU h <;> intro h
     ·refine Qe ?_
      apply iU h <;> intro h
      ·cases h; exact (.p _)
      ·refine xB h fun b317 h => ?_
       apply iU h <;> intro h
       ·cases h; exact (.p _)
       ·refine xB h fun b320 h => ?_
        apply iU h <;> intro h
        ·cases h; exact (.p _)
        ·refine xB h fun b323 h => ?_
         apply iU h <;> intro h
         ·cases h; exact (.p _)
         ·refine xB h fun b326 h => ?_
          apply iU h <;> intro h
          ·cases h; exact (.p _)
          ·refine xB h fun b329 h => ?_
           apply iU h <;> intro h
           ·cases h; exact (.p _)
           ·refine xB h fun b332 h => ?_
            apply iU h <;> intro h
            ·cases h; exact (.p _)
            ·refine kU h fun h => ?_
             show Exists _
             exact ⟨(n0, ((s224.take s224.length).drop 4)), h, Nat.lt_succ_self _, (fun i => i), ⟨(rE rfl <| rX <| rX <| rX <| rX <| rX <| rX <| rX <| rX <| rX <| rX <| rX <| rX <| rX <| rX <| rX <| rX <| rX <| rX <| rX <| rX <| rX <| rN), (hN), rfl, rfl, (roN)⟩⟩
     ·cases h; exact (.p _)
 ·cases h; exact (.p _)
def Ji (N : Nat) (v : Q0) : Nat → Int → Option (Int)
 | 0, _ => none
 | n + 1, s15 =>
  cond (Q5 .lss s15 (v.Text.length : Int))
  ((idx v.Text s15).bind fun b17 =>
  cond (Q5 .geq (b17.toNat : Int) 128)
  (some 6)
  (Ji N v n (IntKind.wrap .i64 (s15 + 1))))
  (some 0)
def Vd (N : Nat) (v : Q0) : Option (Int) :=
 cond (Q5 .eql v.Kind 20)
 ((Vq N v.Text).bind fun v2 =>
 cond (!v2)
 (some 6)
 (some 0))
 (cond (Q5 .eql v.Kind 21)
 (Ji N v N 0)
 (some 0))
theorem Jk {N} {v} {r} (h : Vd N v = some r) : Z0 Tryz.prog G1 113 [.agg (Q0.cells v)] (.int .i64 r) := by
 refine Q3 Z3h ?_
 unfold Vd at h
 apply iU h <;> intro h
 ·refine cP h Q2u p1 fun v2 h => ?_
  apply iU h <;> intro h
  ·cases h; exact (.p _)
  ·cases h; exact (.p _)
 ·apply iU h <;> intro h
  ·refine lpC (τ := Int) (fun s15 => (.any :: .ptr 0 0 :: a8 (a4 (a2 (iI (v.Text.length : Int) :: iI s15 :: a8 ([])))) : List AV)) (fun _ => (.cells (iI v.Kind :: iW v.N' :: iS v.Text :: .p (.slice 4 (Q0.rows v.Items)) :: []) :: [] : List AObj)) (fun n0 s15 => Ji N v n0 s15) (0) h (fun i => i) ⟨(rA <| rE rfl <| rX <| rV <| rW <| rE rfl <| rE rfl <| rX <| rN), (hE rfl <| hN), rfl, rfl, (roE rfl <| roN)⟩ fun n0 s15 h => ?_
   simp only [Ji] at h
   apply iU h <;> intro h
   ·refine xB h fun b17 h => ?_
    apply iU h <;> intro h
    ·cases h; exact (.p _)
    ·show Exists _
     exact ⟨(n0, (IntKind.wrap .i64 (s15 + 1))), h, Nat.lt_succ_self _, (fun i => i), ⟨(rA <| rE rfl <| rX <| rV <| rW <| rE rfl <| rE rfl <| rX <| rN), (hE rfl <| hN), rfl, rfl, (roE rfl <| roN)⟩⟩
   ·cases h; exact (.p _)
  ·cases h; exact (.p _)
def Ga (_N : Nat) (kind : Int) : Option (Int × Bool) :=
 cond (Q5 .eql kind 2)
 (some (1, false))
 (cond (Q5 .eql kind 3)
 (some (8, false))
 (cond (Q5 .eql kind 4)
 (some (16, false))
 (cond (Q5 .eql kind 5)
 (some (32, false))
 (cond (Q5 .eql kind 11)
 (some (32, false))
 (cond (Q5 .eql kind 13)
 (some (32, false))
 (cond (Q5 .eql kind 16)
 (some (32, false))
 (cond (Q5 .eql kind 6)
 (some (64, false))
 (cond (Q5 .eql kind 12)
 (some (64, false))
 (cond (Q5 .eql kind 14)
 (some (64, false))
 (cond (Q5 .eql kind 7)
 (some (8, true))
 (cond (Q5 .eql kind 8)
 (some (16, true))
 (cond (Q5 .eql kind 9)
 (some (32, true))
 (cond (Q5 .eql kind 10)
 (some (64, true))
 (cond (Q5 .eql kind 17)
 (some (64, true))
 (some (0, false))))))))))))))))
theorem Q2k {N} {kind} {r} (h : Ga N kind = some r) : Z0 Tryz.prog G1 109 [.int .i64 kind] (.tuple [.int .i64 r.1, .bool r.2]) := by
 refine Q3 Z3e ?_
 unfold Ga at h
 apply iU h <;> intro h
 ·obtain rfl := Q8 h; exact u2
 ·apply iU h <;> intro h
  ·obtain rfl := Q8 h; exact u2
  ·apply iU h <;> intro h
   ·obtain rfl := Q8 h; exact u2
   ·refine ifO h (fun hc4 h => ?_) (fun hc4 h => ?_)
    ·refine ifT hc4 ?_
     obtain rfl := Q8 h; exact u2
    ·refine ifO h (fun hc5 h => ?_) (fun hc5 h => ?_)
     ·refine ifT hc5 ?_
      obtain rfl := Q8 h; exact u2
     ·refine ifO h (fun hc6 h => ?_) (fun hc6 h => ?_)
      ·refine ifT hc6 ?_
       obtain rfl := Q8 h; exact u2
      ·apply iU h <;> intro h
       ·obtain rfl := Q8 h; exact u2
       ·refine ifO h (fun hc8 h => ?_) (fun hc8 h => ?_)
        ·refine ifT hc8 ?_
         obtain rfl := Q8 h; exact u2
        ·refine ifO h (fun hc9 h => ?_) (fun hc9 h => ?_)
         ·refine ifT hc9 ?_
          obtain rfl := Q8 h; exact u2
         ·apply iU h <;> intro h
          ·obtain rfl := Q8 h; exact u2
          ·apply iU h <;> intro h
           ·obtain rfl := Q8 h; exact u2
           ·apply iU h <;> intro h
            ·obtain rfl := Q8 h; exact u2
            ·apply iU h <;> intro h
             ·obtain rfl := Q8 h; exact u2
             ·refine ifO h (fun hc14 h => ?_) (fun hc14 h => ?_)
              ·refine ifT hc14 ?_
               obtain rfl := Q8 h; exact u2
              ·apply iU h <;> intro h
               ·obtain rfl := Q8 h; exact u2
               ·obtain rfl := Q8 h; exact u2
def Uw (_N : Nat) (n_0 : Int) (bits : Int) (signed : Bool) : Option (Bool) :=
 cond signed
 (cond (decide (0 ≤ (IntKind.wrap .i64 (bits - 1)))) (cond (Q5 .geq (IntKind.wrap .i64 n_0) (Q0d .i64 (-1) (IntKind.wrap .i64 (bits - 1))))
 (some (Q5 .leq (IntKind.wrap .i64 n_0) (IntKind.wrap .i64 (0 - (IntKind.wrap .i64 ((Q0d .i64 (-1) (IntKind.wrap .i64 (bits - 1))) + 1))))))
 (some false)) none)
 (cond (Q5 .eql bits 64)
 (some true)
 (cond (decide (0 ≤ bits)) (some (Q5 .eql (Q4e .u64 n_0 bits) 0)) none))
theorem Q2o {N} {n_0} {bits} {signed} {r} (h : Uw N n_0 bits signed = some r) : Z0 Tryz.prog G1 110 [.int .u64 n_0, .int .i64 bits, .bool signed] (.bool r) := by
 refine Q3 Z3j ?_
 unfold Uw at h
 apply iU h <;> intro h
 ·refine kU h fun h => ?_
  apply iU h <;> intro h
  ·cases h; exact (.p _)
  ·cases h; exact (.p _)
 ·apply iU h <;> intro h
  ·cases h; exact (.p _)
  ·refine kU h fun h => ?_
   cases h; exact (.p _)
def Un (_N : Nat) (r_0 : Int) : Option (Bool) :=
 cond (Q5 .leq 0 r_0)
 (cond (Q5 .lss r_0 55296)
 (some true)
 (cond (Q5 .lss 57343 r_0)
 (cond (Q5 .leq r_0 1114111)
 (some true)
 (some false))
 (some false)))
 (cond (Q5 .lss 57343 r_0)
 (cond (Q5 .leq r_0 1114111)
 (some true)
 (some false))
 (some false))
theorem Q3j {N} {r_0} {r} (h : Un N r_0 = some r) : Z0 Tryz.prog G1 131 [.int .i32 r_0] (.bool r) := by
 refine Q3 Z3o ?_
 unfold Un at h
 apply iU h <;> intro h
 ·apply iU h <;> intro h
  ·cases h; exact (.p _)
  ·apply iU h <;> intro h
   ·apply iU h <;> intro h
    ·cases h; exact (.p _)
    ·cases h; exact (.p _)
   ·cases h; exact (.p _)
 ·apply iU h <;> intro h
  ·apply iU h <;> intro h
   ·cases h; exact (.p _)
   ·cases h; exact (.p _)
  ·cases h; exact (.p _)
def Jo (N : Nat) (n_0 : Int) : Option (Bool) :=
 cond (Q5 .leq n_0 1114111)
 ((Un N (IntKind.wrap .i32 n_0)).bind fun v2 =>
 some v2)
 (some false)
theorem Q71 {N} {n_0} {r} (h : Jo N n_0 = some r) : Z0 Tryz.prog G1 111 [.int .u64 n_0] (.bool r) := by
 refine Q3 Z3d ?_
 unfold Jo at h
 apply iU h <;> intro h
 ·refine cP h Q3j p1 fun v2 h => ?_
  cases h; exact (.p _)
 ·cases h; exact (.p _)
def Xr (N : Nat) (v : Q0) : Option (Int) :=
 cond (Q5 .lss v.Kind 1)
 (some 8)
 (cond (Q5 .gtr v.Kind 21)
 (some 8)
 ((Ga N v.Kind).bind fun v3 =>
 (Uw N v.N' v3.1 v3.2).bind fun v5 =>
 cond (!v5)
 (some 2)
 (cond (Q5 .eql v.Kind 16)
 ((Jo N v.N').bind fun v9 =>
 cond (!v9)
 (some 2)
 (cond (Q5 .neq ((Q0.rows v.Items).length : Int) 0)
 (some 2)
 ((Jj N v.Kind).bind fun v13 =>
 cond (!v13)
 (cond (Q3q .neq v.Text [])
 (some 2)
 (some 0))
 (cond (Q5 .eql v.Kind 15)
 (cond (Q5 .neq (v.Text.length : Int) 16)
 (some 2)
 (cond (Q5 .gtr (v.Text.length : Int) 1048576)
 (some 4)
 ((Vd N v).bind fun v20 =>
 some v20)))
 (cond (Q5 .eql v.Kind 18)
 (cond (Q5 .neq (v.Text.length : Int) 16)
 (some 2)
 (cond (Q5 .gtr (v.Text.length : Int) 1048576)
 (some 4)
 ((Vd N v).bind fun v25 =>
 some v25)))
 (cond (Q5 .gtr (v.Text.length : Int) 1048576)
 (some 4)
 ((Vd N v).bind fun v28 =>
 some v28)))))))
 (cond (Q5 .neq ((Q0.rows v.Items).length : Int) 0)
 (some 2)
 ((Jj N v.Kind).bind fun v31 =>
 cond (!v31)
 (cond (Q3q .neq v.Text [])
 (some 2)
 (some 0))
 (cond (Q5 .eql v.Kind 15)
 (cond (Q5 .neq (v.Text.length : Int) 16)
 (some 2)
 (cond (Q5 .gtr (v.Text.length : Int) 1048576)
 (some 4)
 ((Vd N v).bind fun v38 =>
 some v38)))
 (cond (Q5 .eql v.Kind 18)
 (cond (Q5 .neq (v.Text.length : Int) 16)
 (some 2)
 (cond (Q5 .gtr (v.Text.length : Int) 1048576)
 (some 4)
 ((Vd N v).bind fun v43 =>
 some v43)))
 (cond (Q5 .gtr (v.Text.length : Int) 1048576)
 (some 4)
 ((Vd N v).bind fun v46 =>
 some v46)))))))))
theorem Vj {N} {v} {r} (h : Xr N v = some r) : Z0 Tryz.prog G1 89 [.agg (Q0.cells v)] (.int .i64 r) := by
 refine Q3 k89 ?_
 unfold Xr at h
 apply iU h <;> intro h
 ·cases h; exact (.p _)
 ·apply iU h <;> intro h
  ·cases h; exact (.p _)
  ·refine cP h Q2k p1 fun v3 h => ?_
   refine cP h Q2o p3 fun v5 h => ?_
   apply iU h <;> intro h
   ·cases h; exact (.p _)
   ·apply iU h <;> intro h
    ·refine cP h Q71 p1 fun v9 h => ?_
     apply iU h <;> intro h
     ·cases h; exact (.p _)
     ·apply iU h <;> intro h
      ·cases h; exact (.p _)
      ·refine cP h Q2y p1 fun v13 h => ?_
       apply iU h <;> intro h
       ·apply iU h <;> intro h
        ·cases h; exact (.p _)
        ·cases h; exact (.p _)
       ·apply iU h <;> intro h
        ·apply iU h <;> intro h
         ·cases h; exact (.p _)
         ·apply iU h <;> intro h
          ·cases h; exact (.p _)
          ·refine cP h Jk (.cons q4 .nil) fun v20 h => ?_
           cases h; exact (.p _)
        ·apply iU h <;> intro h
         ·apply iU h <;> intro h
          ·cases h; exact (.p _)
          ·apply iU h <;> intro h
           ·cases h; exact (.p _)
           ·refine cP h Jk (.cons q4 .nil) fun v25 h => ?_
            cases h; exact (.p _)
         ·apply iU h <;> intro h
          ·cases h; exact (.p _)
          ·refine cP h Jk (.cons q4 .nil) fun v28 h => ?_
           cases h; exact (.p _)
    ·apply iU h <;> intro h
     ·cases h; exact (.p _)
     ·refine cP h Q2y p1 fun v31 h => ?_
      apply iU h <;> intro h
      ·apply iU h <;> intro h
       ·cases h; exact (.p _)
       ·cases h; exact (.p _)
      ·apply iU h <;> intro h
       ·apply iU h <;> intro h
        ·cases h; exact (.p _)
        ·apply iU h <;> intro h
         ·cases h; exact (.p _)
         ·refine cP h Jk (.cons q4 .nil) fun v38 h => ?_
          cases h; exact (.p _)
       ·apply iU h <;> intro h
        ·apply iU h <;> intro h
         ·cases h; exact (.p _)
         ·apply iU h <;> intro h
          ·cases h; exact (.p _)
          ·refine cP h Jk (.cons q4 .nil) fun v43 h => ?_
           cases h; exact (.p _)
        ·apply iU h <;> intro h
         ·cases h; exact (.p _)
         ·refine cP h Jk (.cons q4 .nil) fun v46 h => ?_
          cases h; exact (.p _)
def Gh (_N : Nat) (v : Q0) : Option (Bool) :=
 cond (Q3q .neq v.Text [])
 (some false)
 (cond (Q5 .eql v.Kind 24)
 (cond (Q5 .geq v.N' 1)
 (some (Q5 .leq v.N' 24))
 (some false))
 (cond (Q5 .neq v.N' 0)
 (some false)
 (cond (Q5 .eql v.Kind 25)
 (some (Q5 .eql ((Q0.rows v.Items).length : Int) 2))
 (cond (Q5 .eql v.Kind 23)
 (some (Q5 .eql ((((Q0.rows v.Items).length : Int) : Int).tmod 2) 0))
 (some true)))))
theorem Q8f {N} {v} {r} (h : Gh N v = some r) : Z0 Tryz.prog G1 90 [.agg (Q0.cells v)] (.bool r) := by
 refine Q3 k90 ?_
 unfold Gh at h
 apply iU h <;> intro h
 ·cases h; exact (.p _)
 ·apply iU h <;> intro h
  ·apply iU h <;> intro h
   ·cases h; exact (.p _)
   ·cases h; exact (.p _)
  ·apply iU h <;> intro h
   ·cases h; exact (.p _)
   ·apply iU h <;> intro h
    ·cases h; exact (.p _)
    ·apply iU h <;> intro h
     ·cases h; exact (.p _)
     ·cases h; exact (.p _)
def Zo (_N : Nat) (v : Q0) : Option (Bool) :=
 cond (Q5 .eql v.Kind 11)
 (cond (Q5 .eql (Q2t .u64 (Q4e .u64 v.N' 23) 255) 255)
 (some (Q5 .neq (Q0d .u64 v.N' 41) 0))
 (some false))
 (cond (Q5 .eql v.Kind 12)
 (cond (Q5 .eql (Q2t .u64 (Q4e .u64 v.N' 52) 2047) 2047)
 (some (Q5 .neq (Q0d .u64 v.N' 12) 0))
 (some false))
 (some false))
theorem Q2d {N} {v} {r} (h : Zo N v = some r) : Z0 Tryz.prog G1 133 [.agg (Q0.cells v)] (.bool r) := by
 refine Q3 Z3a ?_
 unfold Zo at h
 apply iU h <;> intro h
 ·apply iU h <;> intro h
  ·cases h; exact (.p _)
  ·cases h; exact (.p _)
 ·apply iU h <;> intro h
  ·apply iU h <;> intro h
   ·cases h; exact (.p _)
   ·cases h; exact (.p _)
  ·cases h; exact (.p _)
def U4 (rv1 : Q0 → Q0 → Option (Bool)) (N : Nat) (a : Q0) (b : Q0) : Nat → Int → Option (Bool)
 | 0, _ => none
 | n + 1, s28 =>
  cond (Q5 .lss s28 ((Q0.rows a.Items).length : Int))
  ((idx a.Items s28).bind fun y30 =>
  (idx b.Items s28).bind fun y32 =>
  (rv1 y30 y32).bind fun v34 =>
  cond (!v34)
  (some false)
  (U4 rv1 N a b n (IntKind.wrap .i64 (s28 + 1))))
  (some true)
def Vz (rv1 : Q0 → Q0 → Option (Bool)) (N : Nat) (a : Q0) (b : Q0) : Nat → Int → Option (Bool)
 | 0, _ => none
 | n + 1, s54 =>
  cond (Q5 .lss s54 ((Q0.rows a.Items).length : Int))
  ((idx a.Items s54).bind fun y56 =>
  (idx b.Items s54).bind fun y58 =>
  (rv1 y56 y58).bind fun v60 =>
  cond (!v60)
  (some false)
  (Vz rv1 N a b n (IntKind.wrap .i64 (s54 + 1))))
  (some true)
def Q19 (rv1 : Q0 → Q0 → Option (Bool)) (N : Nat) (a : Q0) (b : Q0) : Option (Bool) :=
 cond (Q5 .neq a.Kind b.Kind)
 (some false)
 (cond (Q3q .neq a.Text b.Text)
 (some false)
 (cond (Q5 .neq ((Q0.rows a.Items).length : Int) ((Q0.rows b.Items).length : Int))
 (some false)
 (cond (Q5 .neq a.N' b.N')
 ((Zo N a).bind fun v5 =>
 cond v5
 ((Zo N b).bind fun v8 =>
 cond (!v8)
 (some false)
 (U4 rv1 N a b N 0))
 (some false))
 (Vz rv1 N a b N 0))))
theorem Q91 {rv1 : Q0 → Q0 → Option (Bool)} (hv3 : ∀ {a} {b} {r}, rv1 a b = some r → Z0 Tryz.prog G1 114 [.agg (Q0.cells a), .agg (Q0.cells b)] (.bool r)) {N} {a} {b} {r} (h : Q19 rv1 N a b = some r) : Z0 Tryz.prog G1 114 [.agg (Q0.cells a), .agg (Q0.cells b)] (.bool r) := by
 refine Q3 Z3u ?_
 unfold Q19 at h
 apply iU h <;> intro h
 ·cases h; exact (.p _)
 ·apply iU h <;> intro h
  ·cases h; exact (.p _)
  ·apply iU h <;> intro h
   ·cases h; exact (.p _)
   ·apply iU h <;> intro h
    ·refine cP h Q2d (.cons q4 .nil) fun v5 h => ?_
     apply iU h <;> intro h
     ·refine cP h Q2d (.cons q4 .nil) fun v8 h => ?_
      apply iU h <;> intro h
      ·cases h; exact (.p _)
      ·refine lpC (τ := Int) (fun s28 => (.any :: .any :: .ptr 0 0 :: .ptr 1 0 :: a16 (a16 (a4 (a2 (.any :: iI ((Q0.rows a.Items).length : Int) :: iI s28 :: a8 (a4 (a2 (.any :: []))))))) : List AV)) (fun _ => (.cells (iI a.Kind :: iW a.N' :: iS a.Text :: .p (.slice 4 (Q0.rows a.Items)) :: []) :: .cells (iI b.Kind :: iW b.N' :: iS b.Text :: .p (.slice 4 (Q0.rows b.Items)) :: []) :: [] : List AObj)) (fun n0 s28 => U4 rv1 N a b n0 s28) (0) h (fun i => i) ⟨(rW <| rE rfl <| rE rfl <| rX <| rX <| rX <| rX <| rV <| rW <| rA <| rE rfl <| rE rfl <| rX <| rV <| rW <| rA <| rN), (hE rfl <| hE rfl <| hN), rfl, rfl, (roE rfl <| roE rfl <| roN)⟩ fun n0 s28 h => ?_
       simp only [U4] at h
       apply iU h <;> intro h
       ·refine Qe ?_
        refine Q0.xR h fun y30 h => ?_
        refine Q0.xR h fun y32 h => ?_
        refine cD h hv3 (.cons q4 (.cons q4 .nil)) fun v34 h => ?_
        apply iU h <;> intro h
        ·cases h; exact (.p _)
        ·show Exists _
         exact ⟨(n0, (IntKind.wrap .i64 (s28 + 1))), h, Nat.lt_succ_self _, (fun i => i), ⟨(rW <| rE rfl <| rE rfl <| rX <| rX <| rX <| rX <| rV <| rW <| rA <| rE rfl <| rE rfl <| rX <| rV <| rW <| rA <| rN), (hE rfl <| hE rfl <| hN), rfl, rfl, (roE rfl <| roE rfl <| roN)⟩⟩
       ·cases h; exact (.p _)
     ·cases h; exact (.p _)
    ·refine lpC (τ := Int) (fun s54 => (.any :: .any :: .ptr 0 0 :: .ptr 1 0 :: a16 (a16 (a4 (a2 (.any :: iI ((Q0.rows a.Items).length : Int) :: iI s54 :: a8 (a4 (a2 (.any :: []))))))) : List AV)) (fun _ => (.cells (iI a.Kind :: iW a.N' :: iS a.Text :: .p (.slice 4 (Q0.rows a.Items)) :: []) :: .cells (iI b.Kind :: iW b.N' :: iS b.Text :: .p (.slice 4 (Q0.rows b.Items)) :: []) :: [] : List AObj)) (fun n1 s54 => Vz rv1 N a b n1 s54) (0) h (fun i => i) ⟨(rW <| rE rfl <| rE rfl <| rX <| rX <| rX <| rX <| rV <| rW <| rA <| rE rfl <| rE rfl <| rX <| rV <| rW <| rA <| rN), (hE rfl <| hE rfl <| hN), rfl, rfl, (roE rfl <| roE rfl <| roN)⟩ fun n1 s54 h => ?_
     simp only [Vz] at h
     apply iU h <;> intro h
     ·refine Qe ?_
      refine Q0.xR h fun y56 h => ?_
      refine Q0.xR h fun y58 h => ?_
      refine cD h hv3 (.cons q4 (.cons q4 .nil)) fun v60 h => ?_
      apply iU h <;> intro h
      ·cases h; exact (.p _)
      ·show Exists _
       exact ⟨(n1, (IntKind.wrap .i64 (s54 + 1))), h, Nat.lt_succ_self _, (fun i => i), ⟨(rW <| rE rfl <| rE rfl <| rX <| rX <| rX <| rX <| rV <| rW <| rA <| rE rfl <| rE rfl <| rX <| rV <| rW <| rA <| rN), (hE rfl <| hE rfl <| hN), rfl, rfl, (roE rfl <| roE rfl <| roN)⟩⟩
     ·cases h; exact (.p _)
def J0 : Nat → Q0 → Q0 → Option (Bool)
 | 0 => fun _ _ => none
 | N + 1 => Q19 (J0 N) N
theorem Q8u {N} {a} {b} {r} (h : J0 N a b = some r) : Z0 Tryz.prog G1 114 [.agg (Q0.cells a), .agg (Q0.cells b)] (.bool r) := by
 induction N generalizing a b r with
 | zero => simp [J0] at h
 | succ N ih => exact Q91 (fun h => ih h) h
def Uu (N : Nat) (k0 : Int → Option (Int)) (v : Q0) (i56 : Int) : Nat → Int → Option (Int)
 | 0, _ => none
 | n + 1, k75 =>
  cond (Q5 .lss k75 i56)
  ((idx v.Items i56).bind fun y77 =>
  (idx v.Items k75).bind fun y79 =>
  (J0 N y77 y79).bind fun v81 =>
  cond v81
  (some 16)
  (Uu N k0 v i56 n (IntKind.wrap .i64 (k75 + 2))))
  (k0 (IntKind.wrap .i64 (i56 + 2)))
def Wh (N : Nat) (v : Q0) : Nat → Int → Option (Int)
 | 0, _ => none
 | n + 1, i56 =>
  cond (Q5 .lss i56 ((Q0.rows v.Items).length : Int))
  (Uu N (Wh N v n) v i56 N 0)
  (some 0)
def Ve (N : Nat) (v : Q0) : Option (Int) :=
 cond (Q5 .neq v.Kind 23)
 (some 0)
 (Wh N v N 2)
theorem G7 {N} {v} {r} (h : Ve N v = some r) : Z0 Tryz.prog G1 91 [.agg (Q0.cells v)] (.int .i64 r) := by
 refine Q3 k91 ?_
 unfold Ve at h
 apply iU h <;> intro h
 ·cases h; exact (.p _)
 ·refine lpC (τ := Int) (fun i56 => (.any :: .ptr 0 0 :: .any :: iI i56 :: a16 (a8 (a2 (.any :: []))) : List AV)) (fun _ => (.cells (iI v.Kind :: iW v.N' :: iS v.Text :: .p (.slice 4 (Q0.rows v.Items)) :: []) :: [] : List AObj)) (fun n0 i56 => Wh N v n0 i56) (2) h (fun i => i) ⟨(rA <| rE rfl <| rA <| rE rfl <| rX <| rX <| rX <| rW <| rA <| rN), (hE rfl <| hN), rfl, rfl, (roE rfl <| roN)⟩ fun n0 i56 h => ?_
  simp only [Wh] at h
  apply iU h <;> intro h
  ·refine lpC (τ := Int) (fun k75 => (.any :: .ptr 0 0 :: .any :: iI i56 :: iI k75 :: a16 (a8 (a2 ([]))) : List AV)) (fun _ => (.cells (iI v.Kind :: iW v.N' :: iS v.Text :: .p (.slice 4 (Q0.rows v.Items)) :: []) :: [] : List AObj)) (fun n1 k75 => Uu N (Wh N v n0) v i56 n1 k75) (0) h (fun i => i) ⟨(rA <| rE rfl <| rA <| rE rfl <| rE rfl <| rX <| rX <| rX <| rW <| rN), (hE rfl <| hN), rfl, rfl, (roE rfl <| roN)⟩ fun n1 k75 h => ?_
   simp only [Uu] at h
   apply iU h <;> intro h
   ·refine Qe ?_
    refine Q0.xR h fun y77 h => ?_
    refine Q0.xR h fun y79 h => ?_
    refine cD h Q8u (.cons q4 (.cons q4 .nil)) fun v81 h => ?_
    apply iU h <;> intro h
    ·cases h; exact (.p _)
    ·show Exists _
     exact ⟨(n1, (IntKind.wrap .i64 (k75 + 2))), h, Nat.lt_succ_self _, (fun i => i), ⟨(rA <| rE rfl <| rA <| rE rfl <| rE rfl <| rX <| rX <| rX <| rW <| rN), (hE rfl <| hN), rfl, rfl, (roE rfl <| roN)⟩⟩
   ·show Exists _
    exact ⟨(n0, (IntKind.wrap .i64 (i56 + 2))), h, Nat.lt_succ_self _, (fun i => i), ⟨(rA <| rE rfl <| rA <| rE rfl <| rX <| rX <| rX <| rW <| rA <| rN), (hE rfl <| hN), rfl, rfl, (roE rfl <| roN)⟩⟩
  ·cases h; exact (.p _)
def Xo (rw1 : Q0 → Int → Option (Int)) (N : Nat) (v : Q0) (most : Int) : Nat → Int → Option (Int)
 | 0, _ => none
 | n + 1, s34 =>
  cond (Q5 .lss s34 ((Q0.rows v.Items).length : Int))
  ((idx v.Items s34).bind fun y36 =>
  cond (Q5 .eql v.Kind 24)
  (cond (Q5 .neq (IntKind.wrap .u64 y36.Kind) v.N')
  (some 8)
  ((rw1 y36 (IntKind.wrap .i64 (most - 1))).bind fun v40 =>
  cond (Q5 .neq v40 0)
  (some v40)
  (Xo rw1 N v most n (IntKind.wrap .i64 (s34 + 1)))))
  ((rw1 y36 (IntKind.wrap .i64 (most - 1))).bind fun v43 =>
  cond (Q5 .neq v43 0)
  (some v43)
  (Xo rw1 N v most n (IntKind.wrap .i64 (s34 + 1)))))
  ((Ve N v).bind fun v46 =>
  some v46)
def Q08 (rw1 : Q0 → Int → Option (Int)) (N : Nat) (v : Q0) (most : Int) : Option (Int) :=
 cond (Q5 .lss v.Kind 1)
 (some 8)
 (cond (Q5 .gtr v.Kind 25)
 (some 8)
 (cond (Q5 .leq v.Kind 21)
 ((Xr N v).bind fun v4 =>
 some v4)
 (cond (Q5 .eql most 0)
 (some 14)
 ((Gh N v).bind fun v7 =>
 cond (!v7)
 (some 2)
 (cond (Q5 .gtr ((Q0.rows v.Items).length : Int) 1000)
 (some 4)
 (Xo rw1 N v most N 0))))))
theorem Q7s {rw1 : Q0 → Int → Option (Int)} (hw3 : ∀ {v} {most} {r}, rw1 v most = some r → Qp0 Tryz.prog G1 88 [.agg (Q0.cells v), .int .i64 most] (.int .i64 r)) {N} {v} {most} {r} (h : Q08 rw1 N v most = some r) : Qp0 Tryz.prog G1 88 [.agg (Q0.cells v), .int .i64 most] (.int .i64 r) := by
 refine Qoj k88 ?_
 unfold Q08 at h
 apply iU h <;> intro h
 ·obtain rfl := Q8 h; exact ⟨_, rfl, (.p _)⟩
 ·apply iU h <;> intro h
  ·obtain rfl := Q8 h; exact ⟨_, rfl, (.p _)⟩
  ·apply iU h <;> intro h
   ·refine cP h Vj (.cons q4 .nil) fun v4 h => ?_
    obtain rfl := Q8 h; exact ⟨_, rfl, (.p _)⟩
   ·apply iU h <;> intro h
    ·obtain rfl := Q8 h; exact ⟨_, rfl, (.p _)⟩
    ·refine cP h Q8f (.cons q4 .nil) fun v7 h => ?_
     apply iU h <;> intro h
     ·obtain rfl := Q8 h; exact ⟨_, rfl, (.p _)⟩
     ·apply iU h <;> intro h
      ·obtain rfl := Q8 h; exact ⟨_, rfl, (.p _)⟩
      ·refine lpC (τ := Int) (fun s34 => (.any :: iI most :: .ptr 0 0 :: .ptr 1 0 :: a16 (a16 (.any :: .p (.slice 4 (Q0.rows v.Items)) :: iI ((Q0.rows v.Items).length : Int) :: iI s34 :: a16 (a8 (.any :: [])))) : List AV)) (fun _ => (.cells (.func (.func 88) [] [.ptr 0 0] :: []) :: .cells (iI v.Kind :: iW v.N' :: iS v.Text :: .p (.slice 4 (Q0.rows v.Items)) :: []) :: [] : List AObj)) (fun n0 s34 => Xo rw1 N v most n0 s34) (0) h (fun i => i) ⟨(rA <| rE rfl <| rE rfl <| rE rfl <| rX <| rX <| rX <| rX <| rA <| rE rfl <| rE rfl <| rE rfl <| rX <| rX <| rX <| rA <| rN), (hE rfl <| hE rfl <| hN), rfl, rfl, (roE rfl <| roE rfl <| roN)⟩ fun n0 s34 h => ?_
       simp only [Xo] at h
       apply iU h <;> intro h
       ·refine Q0.xR h fun y36 h => ?_
        apply iU h <;> intro h
        ·apply iU h <;> intro h
         ·obtain rfl := Q8 h; exact ⟨_, rfl, (.p _)⟩
         ·obtain ⟨v40, hv41, h⟩ := Q3c h
          refine Qeq (hw3 hv41) (.cons q4 p1) rfl rfl ?_
          apply iU h <;> intro h
          ·obtain rfl := Q8 h; exact ⟨_, rfl, (.p _)⟩
          ·show Exists _
           exact ⟨(n0, (IntKind.wrap .i64 (s34 + 1))), h, Nat.lt_succ_self _, (fun i => i), ⟨(rA <| rE rfl <| rE rfl <| rE rfl <| rX <| rX <| rX <| rX <| rA <| rE rfl <| rE rfl <| rE rfl <| rX <| rX <| rX <| rA <| rN), (hE rfl <| hE rfl <| hN), rfl, rfl, (roE rfl <| roE rfl <| roN)⟩⟩
        ·obtain ⟨v43, hv44, h⟩ := Q3c h
         refine Qeq (hw3 hv44) (.cons q4 p1) rfl rfl ?_
         apply iU h <;> intro h
         ·obtain rfl := Q8 h; exact ⟨_, rfl, (.p _)⟩
         ·show Exists _
          exact ⟨(n0, (IntKind.wrap .i64 (s34 + 1))), h, Nat.lt_succ_self _, (fun i => i), ⟨(rA <| rE rfl <| rE rfl <| rE rfl <| rX <| rX <| rX <| rX <| rA <| rE rfl <| rE rfl <| rE rfl <| rX <| rX <| rX <| rA <| rN), (hE rfl <| hE rfl <| hN), rfl, rfl, (roE rfl <| roE rfl <| roN)⟩⟩
       ·refine cP h G7 (.cons q4 .nil) fun v46 h => ?_
        obtain rfl := Q8 h; exact ⟨_, rfl, (.p _)⟩
def Vh : Nat → Q0 → Int → Option (Int)
 | 0 => fun _ _ => none
 | N + 1 => Q08 (Vh N) N
theorem Q7b {N} {v} {most} {r} (h : Vh N v most = some r) : Qp0 Tryz.prog G1 88 [.agg (Q0.cells v), .int .i64 most] (.int .i64 r) := by
 induction N generalizing v most r with
 | zero => simp [Vh] at h
 | succ N ih => exact Q7s (fun h => ih h) h
def W9 (_N : Nat) (most : Int) : Option (Bool) :=
 cond (Q5 .geq most 0)
 (some (Q5 .leq most 32))
 (some false)
theorem Gt {N} {most} {r} (h : W9 N most = some r) : Z0 Tryz.prog G1 87 [.int .i64 most] (.bool r) := by
 refine Q3 k87 ?_
 unfold W9 at h
 apply iU h <;> intro h
 ·cases h; exact (.p _)
 ·cases h; exact (.p _)
def Uz (N : Nat) (v : Q0) (most : Int) : Option (Int) :=
 (W9 N most).bind fun v1 =>
 cond (!v1)
 (some 2)
 ((Vh N v most).bind fun v4 =>
 some v4)
theorem Q1c {N} {v} {most} {r} (h : Uz N v most = some r) : Z0 Tryz.prog G1 61 [.agg (Q0.cells v), .int .i64 most] (.int .i64 r) := by
 refine Q3 k61 ?_
 unfold Uz at h
 refine cP h Gt p1 fun v1 h => ?_
 apply iU h <;> intro h
 ·cases h; exact (.p _)
 ·obtain ⟨v4, hv5, h⟩ := Q3c h
  refine Qeq (Q7b hv5) (.cons q4 p1) rfl rfl ?_
  cases h; exact (.p _)
def Q14 (N : Nat) (c : Qg) (v : Q0) : Option (Bool) :=
 cond (Q5 .eql c.Code 65)
 (some (Q5 .eql v.N' 1))
 (cond c.Sized
 (cond (Q5 .eql c.Width 4)
 (some true)
 (some (Q5 .leq (v.Text.length : Int) 255)))
 (cond (Q5 .eql c.Width 0)
 (some (Q5 .eql v.N' 0))
 (cond (Q5 .eql c.Width 1)
 ((Ga N c.Kind).bind fun v6 =>
 (Uw N v.N' 8 v6.2).bind fun v8 =>
 some v8)
 (some true))))
theorem Qas {N} {c} {v} {r} (h : Q14 N c v = some r) : Z0 Tryz.prog G1 155 [.agg (Qg.cells c), .agg (Q0.cells v)] (.bool r) := by
 refine Q3 Z39 ?_
 unfold Q14 at h
 apply iU h <;> intro h
 ·cases h; exact (.p _)
 ·apply iU h <;> intro h
  ·apply iU h <;> intro h
   ·cases h; exact (.p _)
   ·cases h; exact (.p _)
  ·apply iU h <;> intro h
   ·cases h; exact (.p _)
   ·apply iU h <;> intro h
    ·refine cP h Q2k p1 fun v6 h => ?_
     refine cP h Q2o p3 fun v8 h => ?_
     cases h; exact (.p _)
    ·cases h; exact (.p _)
def Q03 (N : Nat) (code : Int) (v : Q0) : Option (Bool) :=
 (Z9 N code).bind fun v1 =>
 cond v1.2
 (cond (Q5 .eql v1.1.Kind v.Kind)
 ((Xr N v).bind fun v5 =>
 cond (Q5 .eql v5 0)
 ((Q14 N v1.1 v).bind fun v8 =>
 some v8)
 (some false))
 (some false))
 (some false)
theorem Q5a {N} {code} {v} {r} (h : Q03 N code v = some r) : Z0 Tryz.prog G1 134 [.int .i64 code, .agg (Q0.cells v)] (.bool r) := by
 refine Q3 Z4k ?_
 unfold Q03 at h
 refine cP h Vg p1 fun v1 h => ?_
 apply iU h <;> intro h
 ·apply iU h <;> intro h
  ·refine cP h Vj (.cons q4 .nil) fun v5 h => ?_
   apply iU h <;> intro h
   ·refine cP h Qas (.cons (Frz.agg' p5) (.cons q4 .nil)) fun v8 h => ?_
    cases h; exact (.p _)
   ·cases h; exact (.p _)
  ·cases h; exact (.p _)
 ·cases h; exact (.p _)
def Yb (N : Nat) (f : Q1) (code : Int) : Option (Bool) :=
 (Z9 N code).bind fun v1 =>
 cond (!v1.1.Items)
 ((Q03 N code f.v).bind fun v4 =>
 some v4)
 (cond (Q5 .eql v1.1.Kind 25)
 (some true)
 (cond (!v1.1.Sized)
 (some (Q5 .eql ((Q1.rows f.kids).length : Int) 0))
 (cond (Q5 .eql v1.1.Width 4)
 (some true)
 (cond (Q5 .leq (IntKind.wrap .i64 (f.inner + 1)) 255)
 (some (Q5 .leq ((Q1.rows f.kids).length : Int) 255))
 (some false)))))
theorem Q5v {N} {f} {code} {r} (h : Yb N f code = some r) : Z0 Tryz.prog G1 118 [.agg (Q1.cells f), .int .i64 code] (.bool r) := by
 refine Q3 Z41 ?_
 unfold Yb at h
 refine cP h Vg p1 fun v1 h => ?_
 apply iU h <;> intro h
 ·refine cP h Q5a (.cons (.p _) (.cons q4 .nil)) fun v4 h => ?_
  cases h; exact (.p _)
 ·apply iU h <;> intro h
  ·cases h; exact (.p _)
  ·apply iU h <;> intro h
   ·cases h; exact (.p _)
   ·apply iU h <;> intro h
    ·cases h; exact (.p _)
    ·apply iU h <;> intro h
     ·cases h; exact (.p _)
     ·cases h; exact (.p _)
def Wv (N : Nat) (k0 : Int → Option (Int)) (l : List Q1) (s54 : Int) (y56 : Int) : Nat → Bool → Int → Option (Int)
 | 0, _, _ => none
 | n + 1, all71, s72 =>
  cond (Q5 .lss s72 ((Q1.rows l).length : Int))
  ((idx l s72).bind fun y74 =>
  cond all71
  ((Yb N y74 y56).bind fun v77 =>
  Wv N k0 l s54 y56 n v77 (IntKind.wrap .i64 (s72 + 1)))
  (Wv N k0 l s54 y56 n false (IntKind.wrap .i64 (s72 + 1))))
  (cond all71
  (some y56)
  (k0 (IntKind.wrap .i64 (s54 + 1))))
def Xt (N : Nat) (l : List Q1) (v1 : List Int) : Nat → Int → Option (Int)
 | 0, _ => none
 | n + 1, s54 =>
  cond (Q5 .lss s54 ((G5 (cI .i64) v1).length : Int))
  ((idx v1 s54).bind fun y56 =>
  Wv N (Xt N l v1 n) l s54 y56 N true 0)
  (some 0)
def J1 (N : Nat) (kind : Int) (l : List Q1) : Option (Int) :=
 (Q3s N kind).bind fun v1 =>
 Xt N l v1 N 0
theorem Q3k {N} {kind} {l} {r} (h : J1 N kind l = some r) : Z0 Tryz.prog G1 96 [.int .i64 kind, .slice 7 (Q1.rows l)] (.int .i64 r) := by
 refine Q3 k96 ?_
 unfold J1 at h
 refine cP h Qa8 p1 fun v1 h => ?_
 refine lpC (τ := Int) (fun s54 => (.any :: .p (.slice 7 (Q1.rows l)) :: a8 (.any :: .p (.slice 1 (G5 (cI .i64) v1)) :: .p (.int .i64 ((G5 (cI .i64) v1).length : Int)) :: iI s54 :: a16 (a2 (.any :: []))) : List AV)) (fun _ => ([] : List AObj)) (fun n0 s54 => Xt N l v1 n0 s54) (0) h (fun i => i) ⟨(rA <| rE rfl <| rX <| rA <| rE rfl <| rE rfl <| rE rfl <| rX <| rX <| rW <| rA <| rN), (hN), rfl, rfl, (roN)⟩ fun n0 s54 h => ?_
 simp only [Xt] at h
 apply iU h <;> intro h
 ·refine xR h fun y56 h => ?_
  refine lpC (τ := Bool × Int) (fun ⟨all71, s72⟩ => (.any :: .p (.slice 7 (Q1.rows l)) :: a4 (iI y56 :: .p (.bool all71) :: a2 (.any :: .p (.slice 1 (G5 (cI .i64) v1)) :: .p (.int .i64 ((G5 (cI .i64) v1).length : Int)) :: iI s54 :: a2 (.any :: .p (.slice 7 (Q1.rows l)) :: iI ((Q1.rows l).length : Int) :: iI s72 :: a8 (a4 (.any :: []))))) : List AV)) (fun ⟨_, _⟩ => ([] : List AObj)) (fun n1 ⟨all71, s72⟩ => Wv N (Xt N l v1 n0) l s54 y56 n1 all71 s72) (true, 0) h (fun i => i) ⟨(rA <| rE rfl <| rV <| rE rfl <| rE rfl <| rW <| rA <| rE rfl <| rE rfl <| rE rfl <| rW <| rA <| rE rfl <| rE rfl <| rE rfl <| rX <| rV <| rA <| rN), (hN), rfl, rfl, (roN)⟩ fun n1 ⟨all71, s72⟩ h => ?_
  simp only [Wv] at h
  apply iU h <;> intro h
  ·refine Q1.xR h fun y74 h => ?_
   apply iU h <;> intro h
   ·refine cP h Q5v (.cons (Frz.agg' (.cons (.p _) (.cons (.p _) p5))) p1) fun v77 h => ?_
    show Exists _
    exact ⟨(n1, v77, (IntKind.wrap .i64 (s72 + 1))), h, Nat.lt_succ_self _, (fun i => i), ⟨(rA <| rE rfl <| rV <| rE rfl <| rE rfl <| rW <| rA <| rE rfl <| rE rfl <| rE rfl <| rW <| rA <| rE rfl <| rE rfl <| rE rfl <| rX <| rV <| rA <| rN), (hN), rfl, rfl, (roN)⟩⟩
   ·show Exists _
    exact ⟨(n1, false, (IntKind.wrap .i64 (s72 + 1))), h, Nat.lt_succ_self _, (fun i => i), ⟨(rA <| rE rfl <| rV <| rE rfl <| rE rfl <| rW <| rA <| rE rfl <| rE rfl <| rE rfl <| rW <| rA <| rE rfl <| rE rfl <| rE rfl <| rX <| rV <| rA <| rN), (hN), rfl, rfl, (roN)⟩⟩
  ·apply iU h <;> intro h
   ·cases h; exact (.p _)
   ·show Exists _
    exact ⟨(n0, (IntKind.wrap .i64 (s54 + 1))), h, Nat.lt_succ_self _, (fun i => i), ⟨(rA <| rE rfl <| rX <| rA <| rE rfl <| rE rfl <| rE rfl <| rX <| rX <| rW <| rA <| rN), (hN), rfl, rfl, (roN)⟩⟩
 ·cases h; exact (.p _)
def Wf (N : Nat) (f : Q1) : Option (Int) :=
 (J1 N f.v.Kind [f]).bind fun v1 =>
 some v1
theorem Gv {N} {f} {r} (h : Wf N f = some r) : Z0 Tryz.prog G1 75 [.agg (Q1.cells f)] (.int .i64 r) := by
 refine Q3 k75 ?_
 unfold Wf at h
 refine cK h Q3k (.cons (.p _) (.cons (Q1.frz_own (l := [f]) rfl trivial (by simp)) .nil)) fun v1 h => ?_
 cases h; exact (.p _)
def Vb (_N : Nat) (b : Z1) (s_1 : List UInt8) : Option ((Unit) × Z1) :=
 cond (Nat.beq s_1.length 0)
 (some ((), b))
 (cond (Nat.ble ((b.b.length + s_1.length + 4096) * 1) 17592186044416) (some ((), (⟨(b.b ++ (s_1.map fun b => (b.toNat : Int)))⟩ : Z1))) none)
theorem Q1m {N} {b} {s_1} {r} (h : Vb N b s_1 = some r) : GC Tryz.prog G1 115 (.ptr 0 0 :: .p (.str s_1) :: []) (.cells (.slice 1 1 0 b.b.length :: []) :: .cells (Xj (cI .u8) b.b) :: []) (.tuple []) (.cells (.slice 1 2 0 r.2.b.length :: []) :: .dead :: .cells (Xj (cI .u8) r.2.b) :: []) := by
 refine Q4d Z36 (Nat.le_of_ble_eq_true rfl) ?_
 unfold Vb at h
 refine Qbz (b := s_1) ?_
 apply iU h <;> intro h
 ·obtain rfl := Q8 h
  show Exists _
  exact ⟨(rho [0, 1, 1]), ⟨(rE rfl <| rN), (hE rfl <| hD <| hO rfl <| hN), rfl, rfl, (roE rfl <| roE rfl <| roE (Q9 _ _ _) <| roN)⟩⟩
 ·obtain ⟨hk2, h⟩ := Q38 h
  refine Q2a (X6 (c := (cI .u8)) (e := 1) (l := b.b) (fun _ => rfl) (by simp) hk2) ?_
  refine Vt (c := (cI .u8)) (l := b.b) (s_1.map fun b => (b.toNat : Int)) rfl ?_
  obtain rfl := Q8 h
  show Exists _
  exact ⟨(rho [0, 1, 2]), ⟨(rE rfl <| rN), (hC rfl (rL (by simp) rfl <| rN) <| hD <| hO rfl <| hN), rfl, rfl, (roE rfl <| roE rfl <| roE (Q9 _ _ _) <| roN)⟩⟩
def Gb (N : Nat) (n_0 : Int) (size : Int) : Nat → Int → (List Int) → Option (List UInt8)
 | 0, _, _ => none
 | n + 1, s14, l15 =>
  cond (Q5 .lss s14 (ifB (decide (16 < size)) 16 size))
  (cond (Q5 .lss s14 8)
  (cond (decide (0 ≤ (IntKind.wrap .u64 (IntKind.wrap .i64 (8 * s14))))) ((idx (l15 : List Int) (IntKind.wrap .i64 ((IntKind.wrap .i64 ((ifB (decide (16 < size)) 16 size) - 1)) - s14))).bind fun y19 =>
  Gb N n_0 size n (IntKind.wrap .i64 (s14 + 1)) ((l15 : List Int).set (Int.toNat (IntKind.wrap .i64 ((IntKind.wrap .i64 ((ifB (decide (16 < size)) 16 size) - 1)) - s14))) (IntKind.wrap .u8 (Q4e .u64 n_0 (IntKind.wrap .u64 (IntKind.wrap .i64 (8 * s14))))))) none)
  (Gb N n_0 size n (IntKind.wrap .i64 (s14 + 1)) l15))
  (some (l15.map fun n => UInt8.ofNat n.toNat))
def J2 (N : Nat) (n_0 : Int) (size : Int) : Option (List UInt8) :=
 cond (Q5 .leq size 0)
 (some [])
 (cond (decide (0 ≤ (ifB (decide (16 < size)) 16 size)) && decide ((ifB (decide (16 < size)) 16 size) ≤ (ifB (decide (16 < size)) 16 size)) && decide ((ifB (decide (16 < size)) 16 size) * 1 ≤ 1099511627776)) (Gb N n_0 size N 0 (List.replicate ((ifB (decide (16 < size)) 16 size) : Int).toNat (0 : Int))) none)
theorem Jg {N} {n_0} {size} {r} (h : J2 N n_0 size = some r) : Z0 Tryz.prog G1 102 [.int .u64 n_0, .int .i64 size] (.str r) := by
 refine Q3 Qpd ?_
 unfold J2 at h
 apply iU h <;> intro h
 ·cases h; exact (.p _)
 ·refine kU h fun h => ?_
  refine Z0i (c := (cI .u8)) (0 : Int) rfl ?_
  refine lpC (τ := Int × (List Int)) (fun ⟨s14, l15⟩ => (iW n_0 :: .p (.int .i64 (ifB (decide (16 < size)) 16 size)) :: a2 (.any :: .slice 1 1 0 l15.length :: a4 (a2 (.any :: .p (.int .i64 (ifB (decide (16 < size)) 16 size)) :: iI s14 :: a16 (a2 (.any :: []))))) : List AV)) (fun ⟨_, l15⟩ => (.dead :: .cells (Xj (cI .u8) l15) :: [] : List AObj)) (fun n0 ⟨s14, l15⟩ => Gb N n_0 size n0 s14 l15) (0, (List.replicate ((ifB (decide (16 < size)) 16 size) : Int).toNat (0 : Int))) h (rho [0, 0]) ⟨(rE rfl <| rE rfl <| rW <| rA <| rL (by simp) rfl <| rV <| rW <| rA <| rE rfl <| rE rfl <| rX <| rX <| rW <| rA <| rN), (hD <| hO rfl <| hN), rfl, rfl, (roE rfl <| roE (Q9 _ _ _) <| roN)⟩ fun n0 ⟨s14, l15⟩ h => ?_
  simp only [Gb] at h
  apply iU h <;> intro h
  ·apply iU h <;> intro h
   ·refine kU h fun h => ?_
    obtain ⟨y19, hy20, h⟩ := Q3c h
    refine Q2a (Qhd hy20 (by simp)) ?_
    refine Q2a (Qj8 (c := (cI .u8)) (e := 1) (fun _ => rfl) hy20 (off := 0) (by omega) rfl (by decide)) ?_
    refine Qj1 (c := (cI .u8)) (e := 1) (fun _ => rfl) hy20 (IntKind.wrap .u8 (Q4e .u64 n_0 (IntKind.wrap .u64 (IntKind.wrap .i64 (8 * s14))))) (off := 0) (by first | omega | (simp only [Q2t, orI, Qzq, Qgw, Q0d, Q4e]; omega)) rfl (by simp) ?_
    show Exists _
    exact ⟨(n0, (IntKind.wrap .i64 (s14 + 1)), ((l15 : List Int).set (Int.toNat (IntKind.wrap .i64 ((IntKind.wrap .i64 ((ifB (decide (16 < size)) 16 size) - 1)) - s14))) (IntKind.wrap .u8 (Q4e .u64 n_0 (IntKind.wrap .u64 (IntKind.wrap .i64 (8 * s14))))))), h, Nat.lt_succ_self _, (fun i => i), ⟨(rE rfl <| rE rfl <| rW <| rA <| rL (by simp) rfl <| rV <| rW <| rA <| rE rfl <| rE rfl <| rX <| rX <| rW <| rA <| rN), (hD <| hO rfl <| hN), rfl, rfl, (roE rfl <| roE (Q9 _ _ _) <| roN)⟩⟩
   ·show Exists _
    exact ⟨(n0, (IntKind.wrap .i64 (s14 + 1)), l15), h, Nat.lt_succ_self _, (fun i => i), ⟨(rE rfl <| rE rfl <| rW <| rA <| rE rfl <| rV <| rW <| rA <| rE rfl <| rE rfl <| rX <| rX <| rW <| rA <| rN), (hD <| hO rfl <| hN), rfl, rfl, (roE rfl <| roE (Q9 _ _ _) <| roN)⟩⟩
  ·refine Qpz (l := l15) (by simp) ?_
   cases h; exact (.p _)
def Zc (N : Nat) (b : Z1) (n_1 : Int) (width : Int) : Option ((Unit) × Z1) :=
 (J2 N (IntKind.wrap .u64 n_1) width).bind fun v1 =>
 (Vb N b v1).bind fun v3 =>
 some ((), v3.2)
theorem Xp {N} {b} {n_1} {width} {r} (h : Zc N b n_1 width = some r) : GC Tryz.prog G1 92 (.ptr 0 0 :: .p (.int .i64 n_1) :: .p (.int .i64 width) :: []) (.cells (.slice 1 1 0 b.b.length :: []) :: .cells (Xj (cI .u8) b.b) :: []) (.tuple []) (.cells (.slice 1 2 0 r.2.b.length :: []) :: .dead :: .cells (Xj (cI .u8) r.2.b) :: []) := by
 refine Q4d k92 (Nat.le_of_ble_eq_true rfl) ?_
 unfold Zc at h
 refine cP h Jg p2 fun v1 h => ?_
 refine cG h Q1m fun v3 h => ?_
 refine ⟨rho [0, 1], (.cells (.slice 1 2 0 v3.2.b.length :: []) :: .dead :: .cells (Xj (cI .u8) v3.2.b) :: []), .tuple [], ⟨(rE rfl <| rE rfl <| rN), (hE rfl <| hO rfl <| hN), rfl, rfl, (roE rfl <| roE (Q9 _ _ _) <| roN), rfl, (fR 0 rfl rfl rfl rfl <| fD <| fO 2 rfl rfl rfl <| fN), rfl⟩, ?_⟩
 obtain rfl := Q8 h
 show Exists _
 exact ⟨(rho [0, 1, 2]), ⟨(rE rfl <| rN), (hE rfl <| hD <| hO rfl <| hN), rfl, rfl, (roE rfl <| roE rfl <| roE (Q9 _ _ _) <| roN)⟩⟩
def Y9 (N : Nat) (d : Zk) : Option (List UInt8) :=
 (J2 N d.v.N' d.c.Width).bind fun v1 =>
 some v1
theorem U6 {N} {d} {r} (h : Y9 N d = some r) : Z0 Tryz.prog G1 137 [.agg (Zk.cells d)] (.str r) := by
 refine Q3 Z45 ?_
 unfold Y9 at h
 refine cP h Jg p2 fun v1 h => ?_
 cases h; exact (.p _)
def Uc (N : Nat) (d : Zk) : Option (List UInt8) :=
 (J2 N (IntKind.wrap .u64 (d.v.Text.length : Int)) d.c.Width).bind fun v1 =>
 cond (Nat.ble (v1.length + d.v.Text.length) 4611686018427387904) (some (v1 ++ d.v.Text)) none
theorem Q5i {N} {d} {r} (h : Uc N d = some r) : Z0 Tryz.prog G1 135 [.agg (Zk.cells d)] (.str r) := by
 refine Q3 Z3r ?_
 unfold Uc at h
 refine Qe ?_
 refine cD h Jg p2 fun v1 h => ?_
 refine kU h fun h => ?_
 cases h; exact (.p _)
def Gf (_N : Nat) (d : Zk) : Option (List UInt8) :=
 some []
theorem Q5o {N} {d} {r} (h : Gf N d = some r) : Z0 Tryz.prog G1 136 [.agg (Zk.cells d)] (.str r) := by
 refine Q3 Z35 ?_
 unfold Gf at h
 cases h; exact (.p _)
def Q0h (_N : Nat) (d : Zk) : Option (List UInt8) :=
 some d.v.Text
theorem Q51 {N} {d} {r} (h : Q0h N d = some r) : Z0 Tryz.prog G1 138 [.agg (Zk.cells d)] (.str r) := by
 refine Q3 Z49 ?_
 unfold Q0h at h
 cases h; exact (.p _)
def Q1u (N : Nat) (code : Int) (v : Q0) : Option ((List UInt8) × Int) :=
 (Xr N v).bind fun v1 =>
 cond (Q5 .neq v1 0)
 (some ([], v1))
 ((Q03 N code v).bind fun v4 =>
 cond (!v4)
 (some ([], 2))
 ((Z9 N code).bind fun v7 =>
 cond v7.1.Sized
 ((Uc N (⟨v7.1, v⟩ : Zk)).bind fun v10 =>
 some (v10, 0))
 (cond ((v7.1.Width : Int) == 0)
 ((Gf N (⟨v7.1, v⟩ : Zk)).bind fun v13 =>
 some (v13, 0))
 (cond ((v7.1.Width : Int) == 1)
 ((Y9 N (⟨v7.1, v⟩ : Zk)).bind fun v16 =>
 some (v16, 0))
 (cond ((v7.1.Width : Int) == 2)
 ((Y9 N (⟨v7.1, v⟩ : Zk)).bind fun v19 =>
 some (v19, 0))
 (cond ((v7.1.Width : Int) == 4)
 ((Y9 N (⟨v7.1, v⟩ : Zk)).bind fun v22 =>
 some (v22, 0))
 (cond ((v7.1.Width : Int) == 8)
 ((Y9 N (⟨v7.1, v⟩ : Zk)).bind fun v25 =>
 some (v25, 0))
 (cond ((v7.1.Width : Int) == 16)
 ((Q0h N (⟨v7.1, v⟩ : Zk)).bind fun v28 =>
 some (v28, 0))
 (none)))))))))
theorem Qcd {N} {code} {v} {r} (h : Q1u N code v = some r) : Z0 Tryz.prog G1 116 [.int .i64 code, .agg (Q0.cells v)] (.tuple [.str r.1, .int .i64 r.2]) := by
 refine Q3 Z2w ?_
 unfold Q1u at h
 refine cP h Vj (.cons q4 .nil) fun v1 h => ?_
 apply iU h <;> intro h
 ·obtain rfl := Q8 h; exact u2
 ·refine cP h Q5a (.cons (.p _) (.cons q4 .nil)) fun v4 h => ?_
  apply iU h <;> intro h
  ·obtain rfl := Q8 h; exact u2
  ·refine cP h Vg p1 fun v7 h => ?_
   apply iU h <;> intro h
   ·refine cP h Q5i (.cons (Frz.agg' (.cons (.p _) (.cons (.p _) (.cons (.p _) (.cons (.p _) p5))))) .nil) fun v10 h => ?_
    obtain rfl := Q8 h; exact u2
   ·apply iU h <;> intro h
    ·refine cP h Q5o (.cons (Frz.agg' (.cons (.p _) (.cons (.p _) (.cons (.p _) (.cons (.p _) p5))))) .nil) fun v13 h => ?_
     obtain rfl := Q8 h; exact u2
    ·apply iU h <;> intro h
     ·refine cP h U6 (.cons (Frz.agg' (.cons (.p _) (.cons (.p _) (.cons (.p _) (.cons (.p _) p5))))) .nil) fun v16 h => ?_
      obtain rfl := Q8 h; exact u2
     ·apply iU h <;> intro h
      ·refine cP h U6 (.cons (Frz.agg' (.cons (.p _) (.cons (.p _) (.cons (.p _) (.cons (.p _) p5))))) .nil) fun v19 h => ?_
       obtain rfl := Q8 h; exact u2
      ·apply iU h <;> intro h
       ·refine cP h U6 (.cons (Frz.agg' (.cons (.p _) (.cons (.p _) (.cons (.p _) (.cons (.p _) p5))))) .nil) fun v22 h => ?_
        obtain rfl := Q8 h; exact u2
       ·apply iU h <;> intro h
        ·refine cP h U6 (.cons (Frz.agg' (.cons (.p _) (.cons (.p _) (.cons (.p _) (.cons (.p _) p5))))) .nil) fun v25 h => ?_
         obtain rfl := Q8 h; exact u2
        ·apply iU h <;> intro h
         ·refine cP h Q51 (.cons (Frz.agg' (.cons (.p _) (.cons (.p _) (.cons (.p _) (.cons (.p _) p5))))) .nil) fun v28 h => ?_
          obtain rfl := Q8 h; exact u2
         ·first | (cases h; done) | (simp [Qwh] at h; done)
def Vi (rx1 : Q2 → Q1 → Option ((Unit) × Q2)) (ry1 : Q2 → Int → Q1 → Option ((Unit) × Q2)) (N : Nat) (w : Q2) (f : Q1) : Option ((Unit) × Q2) :=
 (Wf N f).bind fun v1 =>
 (Zc N w.buffer v1 1).bind fun v3 =>
 (ry1 (⟨v3.2⟩ : Q2) v1 f).bind fun v5 =>
 some ((), v5.2)
theorem Q46 {rx1 : Q2 → Q1 → Option ((Unit) × Q2)} {ry1 : Q2 → Int → Q1 → Option ((Unit) × Q2)} (hx3 : ∀ {w} {f} {r}, rx1 w f = some r → GC Tryz.prog G1 62 (.ptr 0 0 :: .p (.agg (Q1.cells f)) :: []) (.cells (.slice 1 1 0 w.buffer.b.length :: []) :: .cells (Xj (cI .u8) w.buffer.b) :: []) (.tuple []) (.cells (.slice 1 2 0 r.2.buffer.b.length :: []) :: .dead :: .cells (Xj (cI .u8) r.2.buffer.b) :: [])) (hy3 : ∀ {w} {code} {f} {r}, ry1 w code f = some r → GC Tryz.prog G1 93 (.ptr 0 0 :: .p (.int .i64 code) :: .p (.agg (Q1.cells f)) :: []) (.cells (.slice 1 1 0 w.buffer.b.length :: []) :: .cells (Xj (cI .u8) w.buffer.b) :: []) (.tuple []) (.cells (.slice 1 2 0 r.2.buffer.b.length :: []) :: .dead :: .cells (Xj (cI .u8) r.2.buffer.b) :: [])) {N} {w} {f} {r} (h : Vi rx1 ry1 N w f = some r) : GC Tryz.prog G1 62 (.ptr 0 0 :: .p (.agg (Q1.cells f)) :: []) (.cells (.slice 1 1 0 w.buffer.b.length :: []) :: .cells (Xj (cI .u8) w.buffer.b) :: []) (.tuple []) (.cells (.slice 1 2 0 r.2.buffer.b.length :: []) :: .dead :: .cells (Xj (cI .u8) r.2.buffer.b) :: []) := by
 refine Q4d k62 (Nat.le_of_ble_eq_true rfl) ?_
 unfold Vi at h
 refine cP h Gv (.cons (Frz.agg' (.cons (.p _) (.cons (.p _) p5))) .nil) fun v1 h => ?_
 refine cG h Xp fun v3 h => ?_
 refine ⟨rho [0, 1], (.cells (.slice 1 3 0 v3.2.b.length :: []) :: .dead :: .cells (iI f.v.Kind :: iW f.v.N' :: iS f.v.Text :: .p (.slice 4 (Q0.rows f.v.Items)) :: .p (.slice 7 (Q1.rows f.kids)) :: iI f.element :: iI f.inner :: []) :: .cells (Xj (cI .u8) v3.2.b) :: []), .tuple [], ⟨(rE rfl <| rE rfl <| rE rfl <| rN), (hE rfl <| hO rfl <| hN), rfl, rfl, (roE rfl <| roE (Q9 _ _ _) <| roN), rfl, (fR 0 rfl rfl rfl rfl <| fD <| fK rfl rfl <| fO 2 rfl rfl rfl <| fN), rfl⟩, ?_⟩
 refine cG h hy3 fun v5 h => ?_
 refine ⟨rho [0, 3], (.cells (.slice 1 4 0 v5.2.buffer.b.length :: []) :: .dead :: .cells (iI f.v.Kind :: iW f.v.N' :: iS f.v.Text :: .p (.slice 4 (Q0.rows f.v.Items)) :: .p (.slice 7 (Q1.rows f.kids)) :: iI f.element :: iI f.inner :: []) :: .dead :: .cells (Xj (cI .u8) v5.2.buffer.b) :: []), .tuple [], ⟨(rE rfl <| rE rfl <| rF (Frz.agg' (.cons (.p _) (.cons (.p _) p5))) <| rN), (hE rfl <| hO rfl <| hN), rfl, rfl, (roE rfl <| roE (Q9 _ _ _) <| roN), rfl, (fR 0 rfl rfl rfl rfl <| fD <| fK rfl rfl <| fD <| fO 2 rfl rfl rfl <| fN), rfl⟩, ?_⟩
 obtain rfl := Q8 h
 show Exists _
 exact ⟨(rho [0, 1, 4]), ⟨(rE rfl <| rN), (hE rfl <| hD <| hO rfl <| hN), rfl, rfl, (roE rfl <| roE rfl <| roE (Q9 _ _ _) <| roN)⟩⟩
def Yw (ry1 : Q2 → Int → Q1 → Option ((Unit) × Q2)) (N : Nat) (f : Q1) : Nat → Int → (List Int) → Option ((Unit) × Q2)
 | 0, _, _ => none
 | n + 1, s28, l29 =>
  cond (Q5 .lss s28 ((Q1.rows f.kids).length : Int))
  ((idx f.kids s28).bind fun y31 =>
  (ry1 (⟨(⟨l29⟩ : Z1)⟩ : Q2) f.element y31).bind fun v33 =>
  Yw ry1 N f n (IntKind.wrap .i64 (s28 + 1)) v33.2.buffer.b)
  (some ((), (⟨(⟨l29⟩ : Z1)⟩ : Q2)))
def Yx (rx1 : Q2 → Q1 → Option ((Unit) × Q2)) (N : Nat) (f : Q1) : Nat → Int → (List Int) → Option ((Unit) × Q2)
 | 0, _, _ => none
 | n + 1, s47, l48 =>
  cond (Q5 .lss s47 ((Q1.rows f.kids).length : Int))
  ((idx f.kids s47).bind fun y50 =>
  (rx1 (⟨(⟨l48⟩ : Z1)⟩ : Q2) y50).bind fun v52 =>
  Yx rx1 N f n (IntKind.wrap .i64 (s47 + 1)) v52.2.buffer.b)
  (some ((), (⟨(⟨l48⟩ : Z1)⟩ : Q2)))
def U7 (ry1 : Q2 → Int → Q1 → Option ((Unit) × Q2)) (N : Nat) (f : Q1) : Nat → Int → (List Int) → Option ((Unit) × Q2)
 | 0, _, _ => none
 | n + 1, s69, l70 =>
  cond (Q5 .lss s69 ((Q1.rows f.kids).length : Int))
  ((idx f.kids s69).bind fun y72 =>
  (ry1 (⟨(⟨l70⟩ : Z1)⟩ : Q2) f.element y72).bind fun v74 =>
  U7 ry1 N f n (IntKind.wrap .i64 (s69 + 1)) v74.2.buffer.b)
  (some ((), (⟨(⟨l70⟩ : Z1)⟩ : Q2)))
def X2 (rx1 : Q2 → Q1 → Option ((Unit) × Q2)) (N : Nat) (f : Q1) : Nat → Int → (List Int) → Option ((Unit) × Q2)
 | 0, _, _ => none
 | n + 1, s88, l89 =>
  cond (Q5 .lss s88 ((Q1.rows f.kids).length : Int))
  ((idx f.kids s88).bind fun y91 =>
  (rx1 (⟨(⟨l89⟩ : Z1)⟩ : Q2) y91).bind fun v93 =>
  X2 rx1 N f n (IntKind.wrap .i64 (s88 + 1)) v93.2.buffer.b)
  (some ((), (⟨(⟨l89⟩ : Z1)⟩ : Q2)))
def X5 (rx1 : Q2 → Q1 → Option ((Unit) × Q2)) (ry1 : Q2 → Int → Q1 → Option ((Unit) × Q2)) (N : Nat) (w : Q2) (code : Int) (f : Q1) : Option ((Unit) × Q2) :=
 (Z9 N code).bind fun v1 =>
 cond (!v1.1.Items)
 ((Q1u N code f.v).bind fun v4 =>
 (Vb N w.buffer v4.1).bind fun v6 =>
 some ((), (⟨v6.2⟩ : Q2)))
 (cond v1.1.Sized
 ((Zc N w.buffer (IntKind.wrap .i64 (v1.1.Width + f.inner)) v1.1.Width).bind fun v9 =>
 (Zc N v9.2 ((Q1.rows f.kids).length : Int) v1.1.Width).bind fun v11 =>
 cond (Q5 .eql v1.1.Kind 24)
 ((Zc N v11.2 f.element 1).bind fun v14 =>
 Yw ry1 N f N 0 v14.2.b)
 (Yx rx1 N f N 0 v11.2.b))
 (cond (Q5 .eql v1.1.Kind 24)
 ((Zc N w.buffer f.element 1).bind fun v55 =>
 U7 ry1 N f N 0 v55.2.b)
 (X2 rx1 N f N 0 w.buffer.b)))
theorem Q4r {rx1 : Q2 → Q1 → Option ((Unit) × Q2)} {ry1 : Q2 → Int → Q1 → Option ((Unit) × Q2)} (hx3 : ∀ {w} {f} {r}, rx1 w f = some r → GC Tryz.prog G1 62 (.ptr 0 0 :: .p (.agg (Q1.cells f)) :: []) (.cells (.slice 1 1 0 w.buffer.b.length :: []) :: .cells (Xj (cI .u8) w.buffer.b) :: []) (.tuple []) (.cells (.slice 1 2 0 r.2.buffer.b.length :: []) :: .dead :: .cells (Xj (cI .u8) r.2.buffer.b) :: [])) (hy3 : ∀ {w} {code} {f} {r}, ry1 w code f = some r → GC Tryz.prog G1 93 (.ptr 0 0 :: .p (.int .i64 code) :: .p (.agg (Q1.cells f)) :: []) (.cells (.slice 1 1 0 w.buffer.b.length :: []) :: .cells (Xj (cI .u8) w.buffer.b) :: []) (.tuple []) (.cells (.slice 1 2 0 r.2.buffer.b.length :: []) :: .dead :: .cells (Xj (cI .u8) r.2.buffer.b) :: [])) {N} {w} {code} {f} {r} (h : X5 rx1 ry1 N w code f = some r) : GC Tryz.prog G1 93 (.ptr 0 0 :: .p (.int .i64 code) :: .p (.agg (Q1.cells f)) :: []) (.cells (.slice 1 1 0 w.buffer.b.length :: []) :: .cells (Xj (cI .u8) w.buffer.b) :: []) (.tuple []) (.cells (.slice 1 2 0 r.2.buffer.b.length :: []) :: .dead :: .cells (Xj (cI .u8) r.2.buffer.b) :: []) := by
 refine Q4d k93 (Nat.le_of_ble_eq_true rfl) ?_
 unfold X5 at h
 refine cP h Vg p1 fun v1 h => ?_
 apply iU h <;> intro h
 ·refine cP h Qcd (.cons (.p _) (.cons q4 .nil)) fun v4 h => ?_
  refine cG h Q1m fun v6 h => ?_
  refine ⟨rho [0, 1], (.cells (.slice 1 4 0 v6.2.b.length :: []) :: .dead :: .cells (iI f.v.Kind :: iW f.v.N' :: iS f.v.Text :: .p (.slice 4 (Q0.rows f.v.Items)) :: .p (.slice 7 (Q1.rows f.kids)) :: iI f.element :: iI f.inner :: []) :: .cells (iI v1.1.Code :: iI v1.1.Kind :: iI v1.1.Width :: .p (.bool v1.1.Sized) :: .p (.bool v1.1.Items) :: []) :: .cells (Xj (cI .u8) v6.2.b) :: []), .tuple [], ⟨(rE rfl <| rE rfl <| rN), (hE rfl <| hO rfl <| hN), rfl, rfl, (roE rfl <| roE (Q9 _ _ _) <| roN), rfl, (fR 0 rfl rfl rfl rfl <| fD <| fK rfl rfl <| fK rfl rfl <| fO 2 rfl rfl rfl <| fN), rfl⟩, ?_⟩
  obtain rfl := Q8 h
  show Exists _
  exact ⟨(rho [0, 1, 4]), ⟨(rE rfl <| rN), (hE rfl <| hD <| hO rfl <| hN), rfl, rfl, (roE rfl <| roE rfl <| roE (Q9 _ _ _) <| roN)⟩⟩
 ·apply iU h <;> intro h
  ·refine Q1n 10 rfl rfl ?_
   refine cG h Xp fun v9 h => ?_
   refine ⟨rho [0, 1], (.cells (.slice 1 4 0 v9.2.b.length :: []) :: .dead :: .cells (iI f.v.Kind :: iW f.v.N' :: iS f.v.Text :: .p (.slice 4 (Q0.rows f.v.Items)) :: .p (.slice 7 (Q1.rows f.kids)) :: iI f.element :: iI f.inner :: []) :: .cells (iI v1.1.Code :: iI v1.1.Kind :: iI v1.1.Width :: .p (.bool v1.1.Sized) :: .p (.bool v1.1.Items) :: []) :: .cells (Xj (cI .u8) v9.2.b) :: []), .tuple [], ⟨(rE rfl <| rE rfl <| rE rfl <| rN), (hE rfl <| hO rfl <| hN), rfl, rfl, (roE rfl <| roE (Q9 _ _ _) <| roN), rfl, (fR 0 rfl rfl rfl rfl <| fD <| fK rfl rfl <| fK rfl rfl <| fO 2 rfl rfl rfl <| fN), rfl⟩, ?_⟩
   refine Q1n 8 rfl rfl ?_
   refine cG h Xp fun v11 h => ?_
   refine ⟨rho [0, 4], (.cells (.slice 1 5 0 v11.2.b.length :: []) :: .dead :: .cells (iI f.v.Kind :: iW f.v.N' :: iS f.v.Text :: .p (.slice 4 (Q0.rows f.v.Items)) :: .p (.slice 7 (Q1.rows f.kids)) :: iI f.element :: iI f.inner :: []) :: .cells (iI v1.1.Code :: iI v1.1.Kind :: iI v1.1.Width :: .p (.bool v1.1.Sized) :: .p (.bool v1.1.Items) :: []) :: .dead :: .cells (Xj (cI .u8) v11.2.b) :: []), .tuple [], ⟨(rE rfl <| rE rfl <| rE rfl <| rN), (hE rfl <| hO rfl <| hN), rfl, rfl, (roE rfl <| roE (Q9 _ _ _) <| roN), rfl, (fR 0 rfl rfl rfl rfl <| fD <| fK rfl rfl <| fK rfl rfl <| fD <| fO 2 rfl rfl rfl <| fN), rfl⟩, ?_⟩
   refine ifO h (fun hc13 h => ?_) (fun hc13 h => ?_)
   ·refine Q1n 5 rfl rfl ?_
    refine cG h Xp fun v14 h => ?_
    refine ⟨rho [0, 5], (.cells (.slice 1 6 0 v14.2.b.length :: []) :: .dead :: .cells (iI f.v.Kind :: iW f.v.N' :: iS f.v.Text :: .p (.slice 4 (Q0.rows f.v.Items)) :: .p (.slice 7 (Q1.rows f.kids)) :: iI f.element :: iI f.inner :: []) :: .cells (iI v1.1.Code :: iI v1.1.Kind :: iI v1.1.Width :: .p (.bool v1.1.Sized) :: .p (.bool v1.1.Items) :: []) :: .dead :: .dead :: .cells (Xj (cI .u8) v14.2.b) :: []), .tuple [], ⟨(rE rfl <| rE rfl <| rE rfl <| rN), (hE rfl <| hO rfl <| hN), rfl, rfl, (roE rfl <| roE (Q9 _ _ _) <| roN), rfl, (fR 0 rfl rfl rfl rfl <| fD <| fK rfl rfl <| fK rfl rfl <| fD <| fD <| fO 2 rfl rfl rfl <| fN), rfl⟩, ?_⟩
    refine lpC (τ := Int × (List Int)) (fun ⟨s28, _⟩ => (.ptr 0 0 :: a4 (.ptr 2 0 :: .ptr 3 0 :: a16 (a16 (a16 (a8 (.any :: .p (.slice 7 (Q1.rows f.kids)) :: iI ((Q1.rows f.kids).length : Int) :: iI s28 :: a8 (a4 (a2 (.any :: [])))))))) : List AV)) (fun ⟨_, l29⟩ => (.cells (.slice 1 7 0 l29.length :: []) :: .dead :: .cells (iI f.v.Kind :: iW f.v.N' :: iS f.v.Text :: .p (.slice 4 (Q0.rows f.v.Items)) :: .p (.slice 7 (Q1.rows f.kids)) :: iI f.element :: iI f.inner :: []) :: .cells (iI v1.1.Code :: iI v1.1.Kind :: iI v1.1.Width :: .p (.bool v1.1.Sized) :: .p (.bool v1.1.Items) :: []) :: .dead :: .dead :: .dead :: .cells (Xj (cI .u8) l29) :: [] : List AObj)) (fun n0 ⟨s28, l29⟩ => Yw ry1 N f n0 s28 l29) (0, v14.2.b) h (rho [0, 1, 2, 3, 4, 5, 6, 6]) ⟨(rE rfl <| rV <| rE rfl <| rE rfl <| rX <| rX <| rX <| rX <| rX <| rX <| rX <| rA <| rE rfl <| rE rfl <| rE rfl <| rX <| rV <| rW <| rA <| rN), (hE rfl <| hD <| hE rfl <| hE rfl <| hD <| hD <| hD <| hO rfl <| hN), rfl, rfl, (roE rfl <| roE rfl <| roE rfl <| roE rfl <| roE rfl <| roE rfl <| roE rfl <| roE (Q9 _ _ _) <| roN)⟩ fun n0 ⟨s28, l29⟩ h => ?_
    simp only [Yw] at h
    apply iU h <;> intro h
    ·refine Q1.xR h fun y31 h => ?_
     refine ifT hc13 ?_
     refine cG h hy3 fun v33 h => ?_
     refine ⟨rho [0, 7], (.cells (.slice 1 9 0 v33.2.buffer.b.length :: []) :: .dead :: .cells (iI f.v.Kind :: iW f.v.N' :: iS f.v.Text :: .p (.slice 4 (Q0.rows f.v.Items)) :: .p (.slice 7 (Q1.rows f.kids)) :: iI f.element :: iI f.inner :: []) :: .cells (iI v1.1.Code :: iI v1.1.Kind :: iI v1.1.Width :: .p (.bool v1.1.Sized) :: .p (.bool v1.1.Items) :: []) :: .dead :: .dead :: .dead :: .dead :: .cells (iI y31.v.Kind :: iW y31.v.N' :: iS y31.v.Text :: .p (.slice 4 (Q0.rows y31.v.Items)) :: .p (.slice 7 (Q1.rows y31.kids)) :: iI y31.element :: iI y31.inner :: []) :: .cells (Xj (cI .u8) v33.2.buffer.b) :: []), .tuple [], ⟨(rE rfl <| rE rfl <| rF (Frz.agg' (.cons (.p _) (.cons (.p _) p5))) <| rN), (hE rfl <| hO rfl <| hN), rfl, rfl, (roE rfl <| roE (Q9 _ _ _) <| roN), rfl, (fR 0 rfl rfl rfl rfl <| fD <| fK rfl rfl <| fK rfl rfl <| fD <| fD <| fD <| fD <| fK rfl rfl <| fO 2 rfl rfl rfl <| fN), rfl⟩, ?_⟩
     show Exists _
     exact ⟨(n0, (IntKind.wrap .i64 (s28 + 1)), v33.2.buffer.b), h, Nat.lt_succ_self _, (rho [0, 1, 2, 3, 4, 5, 6, 9]), ⟨(rE rfl <| rV <| rE rfl <| rE rfl <| rX <| rX <| rX <| rX <| rX <| rX <| rX <| rA <| rE rfl <| rE rfl <| rE rfl <| rX <| rV <| rW <| rA <| rN), (hE rfl <| hD <| hE rfl <| hE rfl <| hD <| hD <| hD <| hO rfl <| hN), rfl, rfl, (roE rfl <| roE rfl <| roE rfl <| roE rfl <| roE rfl <| roE rfl <| roE rfl <| roE (Q9 _ _ _) <| roN)⟩⟩
    ·obtain rfl := Q8 h
     show Exists _
     exact ⟨(rho [0, 1, 7]), ⟨(rE rfl <| rN), (hE rfl <| hD <| hO rfl <| hN), rfl, rfl, (roE rfl <| roE rfl <| roE (Q9 _ _ _) <| roN)⟩⟩
   ·refine lpC (τ := Int × (List Int)) (fun ⟨s47, _⟩ => (.ptr 0 0 :: a4 (.ptr 2 0 :: .ptr 3 0 :: a16 (a16 (a16 (a8 (.any :: .p (.slice 7 (Q1.rows f.kids)) :: iI ((Q1.rows f.kids).length : Int) :: iI s47 :: a8 (a4 (a2 (.any :: [])))))))) : List AV)) (fun ⟨_, l48⟩ => (.cells (.slice 1 6 0 l48.length :: []) :: .dead :: .cells (iI f.v.Kind :: iW f.v.N' :: iS f.v.Text :: .p (.slice 4 (Q0.rows f.v.Items)) :: .p (.slice 7 (Q1.rows f.kids)) :: iI f.element :: iI f.inner :: []) :: .cells (iI v1.1.Code :: iI v1.1.Kind :: iI v1.1.Width :: .p (.bool v1.1.Sized) :: .p (.bool v1.1.Items) :: []) :: .dead :: .dead :: .cells (Xj (cI .u8) l48) :: [] : List AObj)) (fun n1 ⟨s47, l48⟩ => Yx rx1 N f n1 s47 l48) (0, v11.2.b) h (rho [0, 1, 2, 3, 4, 5, 5]) ⟨(rE rfl <| rV <| rE rfl <| rE rfl <| rX <| rX <| rX <| rX <| rX <| rX <| rX <| rA <| rE rfl <| rE rfl <| rE rfl <| rX <| rV <| rW <| rA <| rN), (hE rfl <| hD <| hE rfl <| hE rfl <| hD <| hD <| hO rfl <| hN), rfl, rfl, (roE rfl <| roE rfl <| roE rfl <| roE rfl <| roE rfl <| roE rfl <| roE (Q9 _ _ _) <| roN)⟩ fun n1 ⟨s47, l48⟩ h => ?_
    simp only [Yx] at h
    apply iU h <;> intro h
    ·refine Q1.xR h fun y50 h => ?_
     refine ifF hc13 ?_
     refine cG h hx3 fun v52 h => ?_
     refine ⟨rho [0, 6], (.cells (.slice 1 8 0 v52.2.buffer.b.length :: []) :: .dead :: .cells (iI f.v.Kind :: iW f.v.N' :: iS f.v.Text :: .p (.slice 4 (Q0.rows f.v.Items)) :: .p (.slice 7 (Q1.rows f.kids)) :: iI f.element :: iI f.inner :: []) :: .cells (iI v1.1.Code :: iI v1.1.Kind :: iI v1.1.Width :: .p (.bool v1.1.Sized) :: .p (.bool v1.1.Items) :: []) :: .dead :: .dead :: .dead :: .cells (iI y50.v.Kind :: iW y50.v.N' :: iS y50.v.Text :: .p (.slice 4 (Q0.rows y50.v.Items)) :: .p (.slice 7 (Q1.rows y50.kids)) :: iI y50.element :: iI y50.inner :: []) :: .cells (Xj (cI .u8) v52.2.buffer.b) :: []), .tuple [], ⟨(rE rfl <| rF (Frz.agg' (.cons (.p _) (.cons (.p _) p5))) <| rN), (hE rfl <| hO rfl <| hN), rfl, rfl, (roE rfl <| roE (Q9 _ _ _) <| roN), rfl, (fR 0 rfl rfl rfl rfl <| fD <| fK rfl rfl <| fK rfl rfl <| fD <| fD <| fD <| fK rfl rfl <| fO 2 rfl rfl rfl <| fN), rfl⟩, ?_⟩
     show Exists _
     exact ⟨(n1, (IntKind.wrap .i64 (s47 + 1)), v52.2.buffer.b), h, Nat.lt_succ_self _, (rho [0, 1, 2, 3, 4, 5, 8]), ⟨(rE rfl <| rV <| rE rfl <| rE rfl <| rX <| rX <| rX <| rX <| rX <| rX <| rX <| rA <| rE rfl <| rE rfl <| rE rfl <| rX <| rV <| rW <| rA <| rN), (hE rfl <| hD <| hE rfl <| hE rfl <| hD <| hD <| hO rfl <| hN), rfl, rfl, (roE rfl <| roE rfl <| roE rfl <| roE rfl <| roE rfl <| roE rfl <| roE (Q9 _ _ _) <| roN)⟩⟩
    ·obtain rfl := Q8 h
     show Exists _
     exact ⟨(rho [0, 1, 6]), ⟨(rE rfl <| rN), (hE rfl <| hD <| hO rfl <| hN), rfl, rfl, (roE rfl <| roE rfl <| roE (Q9 _ _ _) <| roN)⟩⟩
  ·refine ifO h (fun hc54 h => ?_) (fun hc54 h => ?_)
   ·refine Q1n 5 rfl rfl ?_
    refine cG h Xp fun v55 h => ?_
    refine ⟨rho [0, 1], (.cells (.slice 1 4 0 v55.2.b.length :: []) :: .dead :: .cells (iI f.v.Kind :: iW f.v.N' :: iS f.v.Text :: .p (.slice 4 (Q0.rows f.v.Items)) :: .p (.slice 7 (Q1.rows f.kids)) :: iI f.element :: iI f.inner :: []) :: .cells (iI v1.1.Code :: iI v1.1.Kind :: iI v1.1.Width :: .p (.bool v1.1.Sized) :: .p (.bool v1.1.Items) :: []) :: .cells (Xj (cI .u8) v55.2.b) :: []), .tuple [], ⟨(rE rfl <| rE rfl <| rE rfl <| rN), (hE rfl <| hO rfl <| hN), rfl, rfl, (roE rfl <| roE (Q9 _ _ _) <| roN), rfl, (fR 0 rfl rfl rfl rfl <| fD <| fK rfl rfl <| fK rfl rfl <| fO 2 rfl rfl rfl <| fN), rfl⟩, ?_⟩
    refine lpC (τ := Int × (List Int)) (fun ⟨s69, _⟩ => (.ptr 0 0 :: a4 (.ptr 2 0 :: .ptr 3 0 :: a16 (a16 (a16 (a8 (.any :: .p (.slice 7 (Q1.rows f.kids)) :: iI ((Q1.rows f.kids).length : Int) :: iI s69 :: a8 (a4 (a2 (.any :: [])))))))) : List AV)) (fun ⟨_, l70⟩ => (.cells (.slice 1 5 0 l70.length :: []) :: .dead :: .cells (iI f.v.Kind :: iW f.v.N' :: iS f.v.Text :: .p (.slice 4 (Q0.rows f.v.Items)) :: .p (.slice 7 (Q1.rows f.kids)) :: iI f.element :: iI f.inner :: []) :: .cells (iI v1.1.Code :: iI v1.1.Kind :: iI v1.1.Width :: .p (.bool v1.1.Sized) :: .p (.bool v1.1.Items) :: []) :: .dead :: .cells (Xj (cI .u8) l70) :: [] : List AObj)) (fun n2 ⟨s69, l70⟩ => U7 ry1 N f n2 s69 l70) (0, v55.2.b) h (rho [0, 1, 2, 3, 4, 4]) ⟨(rE rfl <| rV <| rE rfl <| rE rfl <| rX <| rX <| rX <| rX <| rX <| rX <| rX <| rA <| rE rfl <| rE rfl <| rE rfl <| rX <| rV <| rW <| rA <| rN), (hE rfl <| hD <| hE rfl <| hE rfl <| hD <| hO rfl <| hN), rfl, rfl, (roE rfl <| roE rfl <| roE rfl <| roE rfl <| roE rfl <| roE (Q9 _ _ _) <| roN)⟩ fun n2 ⟨s69, l70⟩ h => ?_
    simp only [U7] at h
    apply iU h <;> intro h
    ·refine Q1.xR h fun y72 h => ?_
     refine ifT hc54 ?_
     refine cG h hy3 fun v74 h => ?_
     refine ⟨rho [0, 5], (.cells (.slice 1 7 0 v74.2.buffer.b.length :: []) :: .dead :: .cells (iI f.v.Kind :: iW f.v.N' :: iS f.v.Text :: .p (.slice 4 (Q0.rows f.v.Items)) :: .p (.slice 7 (Q1.rows f.kids)) :: iI f.element :: iI f.inner :: []) :: .cells (iI v1.1.Code :: iI v1.1.Kind :: iI v1.1.Width :: .p (.bool v1.1.Sized) :: .p (.bool v1.1.Items) :: []) :: .dead :: .dead :: .cells (iI y72.v.Kind :: iW y72.v.N' :: iS y72.v.Text :: .p (.slice 4 (Q0.rows y72.v.Items)) :: .p (.slice 7 (Q1.rows y72.kids)) :: iI y72.element :: iI y72.inner :: []) :: .cells (Xj (cI .u8) v74.2.buffer.b) :: []), .tuple [], ⟨(rE rfl <| rE rfl <| rF (Frz.agg' (.cons (.p _) (.cons (.p _) p5))) <| rN), (hE rfl <| hO rfl <| hN), rfl, rfl, (roE rfl <| roE (Q9 _ _ _) <| roN), rfl, (fR 0 rfl rfl rfl rfl <| fD <| fK rfl rfl <| fK rfl rfl <| fD <| fD <| fK rfl rfl <| fO 2 rfl rfl rfl <| fN), rfl⟩, ?_⟩
     show Exists _
     exact ⟨(n2, (IntKind.wrap .i64 (s69 + 1)), v74.2.buffer.b), h, Nat.lt_succ_self _, (rho [0, 1, 2, 3, 4, 7]), ⟨(rE rfl <| rV <| rE rfl <| rE rfl <| rX <| rX <| rX <| rX <| rX <| rX <| rX <| rA <| rE rfl <| rE rfl <| rE rfl <| rX <| rV <| rW <| rA <| rN), (hE rfl <| hD <| hE rfl <| hE rfl <| hD <| hO rfl <| hN), rfl, rfl, (roE rfl <| roE rfl <| roE rfl <| roE rfl <| roE rfl <| roE (Q9 _ _ _) <| roN)⟩⟩
    ·obtain rfl := Q8 h
     show Exists _
     exact ⟨(rho [0, 1, 5]), ⟨(rE rfl <| rN), (hE rfl <| hD <| hO rfl <| hN), rfl, rfl, (roE rfl <| roE rfl <| roE (Q9 _ _ _) <| roN)⟩⟩
   ·refine lpC (τ := Int × (List Int)) (fun ⟨s88, _⟩ => (.ptr 0 0 :: a4 (.ptr 2 0 :: .ptr 3 0 :: a16 (a16 (a16 (a8 (.any :: .p (.slice 7 (Q1.rows f.kids)) :: iI ((Q1.rows f.kids).length : Int) :: iI s88 :: a8 (a4 (a2 (.any :: [])))))))) : List AV)) (fun ⟨_, l89⟩ => (.cells (.slice 1 4 0 l89.length :: []) :: .dead :: .cells (iI f.v.Kind :: iW f.v.N' :: iS f.v.Text :: .p (.slice 4 (Q0.rows f.v.Items)) :: .p (.slice 7 (Q1.rows f.kids)) :: iI f.element :: iI f.inner :: []) :: .cells (iI v1.1.Code :: iI v1.1.Kind :: iI v1.1.Width :: .p (.bool v1.1.Sized) :: .p (.bool v1.1.Items) :: []) :: .cells (Xj (cI .u8) l89) :: [] : List AObj)) (fun n3 ⟨s88, l89⟩ => X2 rx1 N f n3 s88 l89) (0, w.buffer.b) h (rho [0, 1, 2, 3, 1]) ⟨(rE rfl <| rV <| rE rfl <| rE rfl <| rX <| rX <| rX <| rX <| rX <| rX <| rX <| rA <| rE rfl <| rE rfl <| rE rfl <| rX <| rV <| rW <| rA <| rN), (hE rfl <| hD <| hE rfl <| hE rfl <| hO rfl <| hN), rfl, rfl, (roE rfl <| roE rfl <| roE rfl <| roE rfl <| roE (Q9 _ _ _) <| roN)⟩ fun n3 ⟨s88, l89⟩ h => ?_
    simp only [X2] at h
    apply iU h <;> intro h
    ·refine Q1.xR h fun y91 h => ?_
     refine ifF hc54 ?_
     refine cG h hx3 fun v93 h => ?_
     refine ⟨rho [0, 4], (.cells (.slice 1 6 0 v93.2.buffer.b.length :: []) :: .dead :: .cells (iI f.v.Kind :: iW f.v.N' :: iS f.v.Text :: .p (.slice 4 (Q0.rows f.v.Items)) :: .p (.slice 7 (Q1.rows f.kids)) :: iI f.element :: iI f.inner :: []) :: .cells (iI v1.1.Code :: iI v1.1.Kind :: iI v1.1.Width :: .p (.bool v1.1.Sized) :: .p (.bool v1.1.Items) :: []) :: .dead :: .cells (iI y91.v.Kind :: iW y91.v.N' :: iS y91.v.Text :: .p (.slice 4 (Q0.rows y91.v.Items)) :: .p (.slice 7 (Q1.rows y91.kids)) :: iI y91.element :: iI y91.inner :: []) :: .cells (Xj (cI .u8) v93.2.buffer.b) :: []), .tuple [], ⟨(rE rfl <| rF (Frz.agg' (.cons (.p _) (.cons (.p _) p5))) <| rN), (hE rfl <| hO rfl <| hN), rfl, rfl, (roE rfl <| roE (Q9 _ _ _) <| roN), rfl, (fR 0 rfl rfl rfl rfl <| fD <| fK rfl rfl <| fK rfl rfl <| fD <| fK rfl rfl <| fO 2 rfl rfl rfl <| fN), rfl⟩, ?_⟩
     show Exists _
     exact ⟨(n3, (IntKind.wrap .i64 (s88 + 1)), v93.2.buffer.b), h, Nat.lt_succ_self _, (rho [0, 1, 2, 3, 6]), ⟨(rE rfl <| rV <| rE rfl <| rE rfl <| rX <| rX <| rX <| rX <| rX <| rX <| rX <| rA <| rE rfl <| rE rfl <| rE rfl <| rX <| rV <| rW <| rA <| rN), (hE rfl <| hD <| hE rfl <| hE rfl <| hO rfl <| hN), rfl, rfl, (roE rfl <| roE rfl <| roE rfl <| roE rfl <| roE (Q9 _ _ _) <| roN)⟩⟩
    ·obtain rfl := Q8 h
     show Exists _
     exact ⟨(rho [0, 1, 4]), ⟨(rE rfl <| rN), (hE rfl <| hD <| hO rfl <| hN), rfl, rfl, (roE rfl <| roE rfl <| roE (Q9 _ _ _) <| roN)⟩⟩
def Z6 : Nat → (Q2 → Q1 → Option ((Unit) × Q2)) × (Q2 → Int → Q1 → Option ((Unit) × Q2))
 | 0 => (fun _ _ => none, fun _ _ _ => none)
 | N + 1 => (Vi ((Z6 N).1) ((Z6 N).2) N, X5 ((Z6 N).1) ((Z6 N).2) N)
def Zi (N : Nat) : Q2 → Q1 → Option ((Unit) × Q2) := (Z6 N).1
def Wq (N : Nat) : Q2 → Int → Q1 → Option ((Unit) × Q2) := (Z6 N).2
theorem Q44 : ∀ N, (∀ {w : Q2} {f : Q1} {r : (Unit) × Q2}, (Z6 N).1 w f = some r → GC Tryz.prog G1 62 (.ptr 0 0 :: .p (.agg (Q1.cells f)) :: []) (.cells (.slice 1 1 0 w.buffer.b.length :: []) :: .cells (Xj (cI .u8) w.buffer.b) :: []) (.tuple []) (.cells (.slice 1 2 0 r.2.buffer.b.length :: []) :: .dead :: .cells (Xj (cI .u8) r.2.buffer.b) :: [])) ∧ (∀ {w : Q2} {code : Int} {f : Q1} {r : (Unit) × Q2}, (Z6 N).2 w code f = some r → GC Tryz.prog G1 93 (.ptr 0 0 :: .p (.int .i64 code) :: .p (.agg (Q1.cells f)) :: []) (.cells (.slice 1 1 0 w.buffer.b.length :: []) :: .cells (Xj (cI .u8) w.buffer.b) :: []) (.tuple []) (.cells (.slice 1 2 0 r.2.buffer.b.length :: []) :: .dead :: .cells (Xj (cI .u8) r.2.buffer.b) :: [])) := by
 intro N
 induction N with
 | zero => exact ⟨(fun h => by simp [Z6] at h), (fun h => by simp [Z6] at h)⟩
 | succ N ih => exact ⟨(fun h => Q46 (N := N) (fun h => ih.1 h) (fun h => ih.2 h) h), (fun h => Q4r (N := N) (fun h => ih.1 h) (fun h => ih.2 h) h)⟩
theorem Q43 {N : Nat} {w : Q2} {f : Q1} {r : (Unit) × Q2} (h : Zi N w f = some r) : GC Tryz.prog G1 62 (.ptr 0 0 :: .p (.agg (Q1.cells f)) :: []) (.cells (.slice 1 1 0 w.buffer.b.length :: []) :: .cells (Xj (cI .u8) w.buffer.b) :: []) (.tuple []) (.cells (.slice 1 2 0 r.2.buffer.b.length :: []) :: .dead :: .cells (Xj (cI .u8) r.2.buffer.b) :: []) := (Q44 N).1 h
def Wg (rv : Q1 → Int → Option (Int)) (rz1 : Q1 → Option (Int)) (N : Nat) (f : Q1) (code : Int) : Option (Int) :=
 (Z9 N code).bind fun v1 =>
 cond (Q5 .eql v1.1.Kind 25)
 ((rz1 f).bind fun v4 =>
 some v4)
 (cond v1.1.Items
 (cond v1.1.Sized
 (some (IntKind.wrap .i64 ((IntKind.wrap .i64 (2 * v1.1.Width)) + f.inner)))
 (some v1.1.Width))
 (cond v1.1.Sized
 (some (IntKind.wrap .i64 (v1.1.Width + (f.v.Text.length : Int))))
 (some v1.1.Width)))
theorem Q5y {rv : Q1 → Int → Option (Int)} {rz1 : Q1 → Option (Int)} (hx2 : ∀ {f} {code} {r}, rv f code = some r → Z0 Tryz.prog G1 74 [.agg (Q1.cells f), .int .i64 code] (.int .i64 r)) (hv2 : ∀ {f} {r}, rz1 f = some r → Z0 Tryz.prog G1 94 [.agg (Q1.cells f)] (.int .i64 r)) {N} {f} {code} {r} (h : Wg rv rz1 N f code = some r) : Z0 Tryz.prog G1 74 [.agg (Q1.cells f), .int .i64 code] (.int .i64 r) := by
 refine Q3 k74 ?_
 unfold Wg at h
 refine cP h Vg p1 fun v1 h => ?_
 apply iU h <;> intro h
 ·refine cP h hv2 (.cons (Frz.agg' (.cons (.p _) (.cons (.p _) p5))) .nil) fun v4 h => ?_
  cases h; exact (.p _)
 ·apply iU h <;> intro h
  ·refine ifO h (fun hc7 h => ?_) (fun hc7 h => ?_)
   ·cases h; exact (.p _)
   ·refine ifF hc7 ?_
    cases h; exact (.p _)
  ·apply iU h <;> intro h
   ·cases h; exact (.p _)
   ·cases h; exact (.p _)
def Xg (rv : Q1 → Int → Option (Int)) (N : Nat) (f : Q1) : Nat → Int → Int → Option (Int)
 | 0, _, _ => none
 | n + 1, n17, s18 =>
  cond (Q5 .lss s18 ((Q1.rows f.kids).length : Int))
  ((idx f.kids s18).bind fun y20 =>
  (Wf N y20).bind fun v22 =>
  (rv y20 v22).bind fun v24 =>
  Xg rv N f n (IntKind.wrap .i64 (n17 + (IntKind.wrap .i64 (1 + v24)))) (IntKind.wrap .i64 (s18 + 1)))
  (some n17)
def Q0m (rv : Q1 → Int → Option (Int)) (rz1 : Q1 → Option (Int)) (N : Nat) (f : Q1) : Option (Int) :=
 Xg rv N f N 0 0
theorem Q5d {rv : Q1 → Int → Option (Int)} {rz1 : Q1 → Option (Int)} (hx2 : ∀ {f} {code} {r}, rv f code = some r → Z0 Tryz.prog G1 74 [.agg (Q1.cells f), .int .i64 code] (.int .i64 r)) (hv2 : ∀ {f} {r}, rz1 f = some r → Z0 Tryz.prog G1 94 [.agg (Q1.cells f)] (.int .i64 r)) {N} {f} {r} (h : Q0m rv rz1 N f = some r) : Z0 Tryz.prog G1 94 [.agg (Q1.cells f)] (.int .i64 r) := by
 refine Q3 k94 ?_
 unfold Q0m at h
 refine lpC (τ := Int × Int) (fun ⟨n17, s18⟩ => (a2 (.any :: iI n17 :: a2 (.any :: .p (.slice 7 (Q1.rows f.kids)) :: iI ((Q1.rows f.kids).length : Int) :: iI s18 :: a8 (a4 ([])))) : List AV)) (fun ⟨_, _⟩ => (.cells (iI f.v.Kind :: iW f.v.N' :: iS f.v.Text :: .p (.slice 4 (Q0.rows f.v.Items)) :: .p (.slice 7 (Q1.rows f.kids)) :: iI f.element :: iI f.inner :: []) :: [] : List AObj)) (fun n0 ⟨n17, s18⟩ => Xg rv N f n0 n17 s18) (0, 0) h (fun i => i) ⟨(rW <| rA <| rE rfl <| rW <| rA <| rE rfl <| rE rfl <| rE rfl <| rX <| rV <| rN), (hE rfl <| hN), rfl, rfl, (roE rfl <| roN)⟩ fun n0 ⟨n17, s18⟩ h => ?_
 simp only [Xg] at h
 apply iU h <;> intro h
 ·refine Q1.xR h fun y20 h => ?_
  refine Qe ?_
  refine cD h Gv (.cons (Frz.agg' (.cons (.p _) (.cons (.p _) p5))) .nil) fun v22 h => ?_
  refine cD h hx2 (.cons (Frz.agg' (.cons (.p _) (.cons (.p _) p5))) p1) fun v24 h => ?_
  show Exists _
  exact ⟨(n0, (IntKind.wrap .i64 (n17 + (IntKind.wrap .i64 (1 + v24)))), (IntKind.wrap .i64 (s18 + 1))), h, Nat.lt_succ_self _, (fun i => i), ⟨(rW <| rA <| rE rfl <| rW <| rA <| rE rfl <| rE rfl <| rE rfl <| rX <| rV <| rN), (hE rfl <| hN), rfl, rfl, (roE rfl <| roN)⟩⟩
 ·cases h; exact (.p _)
def Zu : Nat → (Q1 → Int → Option (Int)) × (Q1 → Option (Int))
 | 0 => (fun _ _ => none, fun _ => none)
 | N + 1 => (Wg ((Zu N).1) ((Zu N).2) N, Q0m ((Zu N).1) ((Zu N).2) N)
def Ya (N : Nat) : Q1 → Int → Option (Int) := (Zu N).1
def Y1 (N : Nat) : Q1 → Option (Int) := (Zu N).2
theorem Q1q : ∀ N, (∀ {f : Q1} {code : Int} {r : Int}, (Zu N).1 f code = some r → Z0 Tryz.prog G1 74 [.agg (Q1.cells f), .int .i64 code] (.int .i64 r)) ∧ (∀ {f : Q1} {r : Int}, (Zu N).2 f = some r → Z0 Tryz.prog G1 94 [.agg (Q1.cells f)] (.int .i64 r)) := by
 intro N
 induction N with
 | zero => exact ⟨(fun h => by simp [Zu] at h), (fun h => by simp [Zu] at h)⟩
 | succ N ih => exact ⟨(fun h => Q5y (N := N) (fun h => ih.1 h) (fun h => ih.2 h) h), (fun h => Q5d (N := N) (fun h => ih.1 h) (fun h => ih.2 h) h)⟩
theorem Q27 {N : Nat} {f : Q1} {code : Int} {r : Int} (h : Ya N f code = some r) : Z0 Tryz.prog G1 74 [.agg (Q1.cells f), .int .i64 code] (.int .i64 r) := (Q1q N).1 h
theorem Uo {N : Nat} {f : Q1} {r : Int} (h : Y1 N f = some r) : Z0 Tryz.prog G1 94 [.agg (Q1.cells f)] (.int .i64 r) := (Q1q N).2 h
def Xc (N : Nat) (f : Q1) : Nat → Int → Int → Option (Int)
 | 0, _, _ => none
 | n + 1, n13, s14 =>
  cond (Q5 .lss s14 ((Q1.rows f.kids).length : Int))
  ((idx f.kids s14).bind fun y16 =>
  (Ya N y16 f.element).bind fun v18 =>
  Xc N f n (IntKind.wrap .i64 (n13 + v18)) (IntKind.wrap .i64 (s14 + 1)))
  (some n13)
def Ug (N : Nat) (f : Q1) : Option (Int) :=
 Xc N f N 1 0
theorem Q1k {N} {f} {r} (h : Ug N f = some r) : Z0 Tryz.prog G1 95 [.agg (Q1.cells f)] (.int .i64 r) := by
 refine Q3 k95 ?_
 unfold Ug at h
 refine lpC (τ := Int × Int) (fun ⟨n13, s14⟩ => (.any :: .ptr 0 0 :: .any :: iI n13 :: a2 (.any :: .p (.slice 7 (Q1.rows f.kids)) :: iI ((Q1.rows f.kids).length : Int) :: iI s14 :: a8 (a2 (.any :: []))) : List AV)) (fun ⟨_, _⟩ => (.cells (iI f.v.Kind :: iW f.v.N' :: iS f.v.Text :: .p (.slice 4 (Q0.rows f.v.Items)) :: .p (.slice 7 (Q1.rows f.kids)) :: iI f.element :: iI f.inner :: []) :: [] : List AObj)) (fun n0 ⟨n13, s14⟩ => Xc N f n0 n13 s14) (1, 0) h (fun i => i) ⟨(rA <| rE rfl <| rA <| rE rfl <| rW <| rA <| rE rfl <| rE rfl <| rE rfl <| rX <| rW <| rA <| rN), (hE rfl <| hN), rfl, rfl, (roE rfl <| roN)⟩ fun n0 ⟨n13, s14⟩ h => ?_
 simp only [Xc] at h
 apply iU h <;> intro h
 ·refine Q1.xR h fun y16 h => ?_
  refine cP h Q27 (.cons (Frz.agg' (.cons (.p _) (.cons (.p _) p5))) p1) fun v18 h => ?_
  show Exists _
  exact ⟨(n0, (IntKind.wrap .i64 (n13 + v18)), (IntKind.wrap .i64 (s14 + 1))), h, Nat.lt_succ_self _, (fun i => i), ⟨(rA <| rE rfl <| rA <| rE rfl <| rW <| rA <| rE rfl <| rE rfl <| rE rfl <| rX <| rW <| rA <| rN), (hE rfl <| hN), rfl, rfl, (roE rfl <| roN)⟩⟩
 ·cases h; exact (.p _)
end
end
end Go.Av
