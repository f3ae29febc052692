/- The law. Part of a proof of a given statement: for every input the law returns true and the arguments read as before; no condition beyond the given row. -/
import Derived.Test.YtkemhhfbpniioaaGreatDoorLiftTy
import Derived.Test.YtkemhhfbpniioaaGreatDoorChks
import Derived.Test.YtkemhhfbpniioaaGreatDoorSeat1
import Derived.Test.YtkemhhfbpniioaaGreatDoorLiftG
import Derived.Test.YtkemhhfbpniioaaGreatDoorMans
namespace Go.Av
noncomputable section
open Go.Proofs
set_option maxRecDepth 100000
set_option maxHeartbeats 4000000
attribute [local irreducible] U6 Xv Q7q Q9j Q8 Q3o Qin
section
def Wg (_N : Nat) (b : Qq) : Option ((List UInt8) × Qq) :=
 some ((b.b.map fun n => UInt8.ofNat n.toNat), b)
theorem Gh {N} {b} {r} (h : Wg N b = some r) : GC Tryz.prog G1 64 (.ptr 0 0 :: []) (.cells (.slice 1 1 0 b.b.length :: []) :: .cells (Xq (cI .u8) b.b) :: []) (.p (.str r.1)) (.cells (.slice 1 2 0 r.2.b.length :: []) :: .dead :: .cells (Xq (cI .u8) r.2.b) :: []) := by
 refine Q37 k64 (Nat.le_of_ble_eq_true rfl) ?_
 unfold Wg at h
 refine Qoj (l := b.b) (by simp) ?_
 obtain rfl := Ql h
 show Exists _
 exact ⟨(rho [0, 1, 1]), ⟨(rE rfl <| rN), (hE rfl <| hD <| hO rfl <| hN), rfl, rfl, (roE rfl <| roE rfl <| roE (Qb _ _ _) <| roN)⟩⟩
def Wf (rz : Q0 → Option (Q0)) (N : Nat) (v : Q0) (c13 : Int) : Nat → Int → (List Q0) → Option (Q0)
 | 0, _, _ => none
 | n + 1, s39, l40 =>
  cond (Q8 .lss s39 ((Q0.rows v.Items).length : Int))
  ((idx v.Items s39).bind fun y42 =>
  (rz y42).bind fun v44 =>
  cond (Nat.ble ((l40.length + 1 + 4096) * 56) 17592186044416) (Wf rz N v c13 n (IntKind.wrap .i64 (s39 + 1)) (l40 ++ [v44])) none)
  (some (⟨v.Kind, c13, v.Text, l40⟩ : Q0))
def Yy (rz : Q0 → Option (Q0)) (N : Nat) (v : Q0) (c13 : Int) : Option (Q0) :=
 Wf rz N v c13 N 0 []
def We (_N : Nat) (k0 : Int → Option (Q0)) (v : Q0) (s22 : Bool) : Option (Q0) :=
 cond s22
 (k0 9221120237041090560)
 (k0 v.N')
def Wd (N : Nat) (k0 : Int → Option (Q0)) (v : Q0) (s16 : Bool) : Option (Q0) :=
 cond s16
 (k0 2143289344)
 (cond (Q8 .eql v.Kind 12)
 (cond (Q8 .eql (Jw .u64 (Q1d .u64 v.N' 52) 2047) 2047)
 (We N k0 v (Q8 .neq (Ut .u64 v.N' 12) 0))
 (We N k0 v false))
 (We N k0 v false))
def U3 (rz : Q0 → Option (Q0)) (N : Nat) (v : Q0) : Option (Q0) :=
 cond (Q8 .eql v.Kind 11)
 (cond (Q8 .eql (Jw .u64 (Q1d .u64 v.N' 23) 255) 255)
 (Wd N (Yy rz N v) v (Q8 .neq (Ut .u64 v.N' 41) 0))
 (Wd N (Yy rz N v) v false))
 (Wd N (Yy rz N v) v false)
theorem Q51 {rz : Q0 → Option (Q0)} (hy2 : ∀ {v} {r}, rz v = some r → Zp Tryz.prog G1 21 [.agg (Q0.cells v)] (.agg (Q0.cells r))) {N} {v} {r} (h : U3 rz N v = some r) : Zp Tryz.prog G1 21 [.agg (Q0.cells v)] (.agg (Q0.cells r)) := by
 refine Q4 k21 ?_
 unfold U3 at h
 refine Vf (σ := Int) (fun _ => (.any :: .ptr 0 0 :: .ptr 1 0 :: .ptr 2 0 :: a16 (a16 (a16 (a8 (a4 (.any :: []))))) : List AV)) (fun c13 => (.cells (iI v.Kind :: iW v.N' :: iS v.Text :: .p (.slice 4 (Q0.rows v.Items)) :: []) :: .cells (iI 0 :: iW 0 :: iS [] :: .p .nilSlice :: []) :: .cells (iI v.Kind :: iW c13 :: iS v.Text :: .p .nilSlice :: []) :: [] : List AObj)) (fun c13 => Yy rz N v c13 = some r) (fun _ _ => lb) ?_ ?_
 ·refine Vf (σ := Bool) (fun s16 => (.any :: .ptr 0 0 :: .ptr 1 0 :: .ptr 2 0 :: a8 (.any :: .p (.bool s16) :: a16 (a16 (a16 (a2 (.any :: []))))) : List AV)) (fun _ => (.cells (iI v.Kind :: iW v.N' :: iS v.Text :: .p (.slice 4 (Q0.rows v.Items)) :: []) :: .cells (iI 0 :: iW 0 :: iS [] :: .p .nilSlice :: []) :: .cells (iI v.Kind :: iW v.N' :: iS v.Text :: .p .nilSlice :: []) :: [] : List AObj)) (fun s16 => Wd N (Yy rz N v) v s16 = some r) (fun _ _ => lb) ?_ ?_
  ·apply iU h <;> intro h
   ·apply iU h <;> intro h
    ·show Exists _
     exact ⟨((Q8 .neq (Ut .u64 v.N' 41) 0)), h, (fun i => i), ⟨(rA <| rE rfl <| rE rfl <| rE rfl <| rX <| rA <| rE rfl <| rX <| rX <| rX <| rX <| rX <| rX <| rW <| rA <| rN), (hE rfl <| hE rfl <| hE rfl <| hN), rfl, rfl, (roE rfl <| roE rfl <| roE rfl <| roN)⟩⟩
    ·show Exists _
     exact ⟨(false), h, (fun i => i), ⟨(rA <| rE rfl <| rE rfl <| rE rfl <| rX <| rA <| rE rfl <| rX <| rX <| rX <| rX <| rX <| rX <| rW <| rA <| rN), (hE rfl <| hE rfl <| hE rfl <| hN), rfl, rfl, (roE rfl <| roE rfl <| roE rfl <| roN)⟩⟩
   ·show Exists _
    exact ⟨(false), h, (fun i => i), ⟨(rA <| rE rfl <| rE rfl <| rE rfl <| rX <| rA <| rE rfl <| rX <| rX <| rX <| rX <| rX <| rX <| rW <| rA <| rN), (hE rfl <| hE rfl <| hE rfl <| hN), rfl, rfl, (roE rfl <| roE rfl <| roE rfl <| roN)⟩⟩
  rintro s16 h
  dsimp only [Wd] at h
  apply iU h <;> intro h
  ·show Exists _
   exact ⟨(2143289344), h, (fun i => i), ⟨(rA <| rE rfl <| rE rfl <| rE rfl <| rX <| rX <| rX <| rX <| rX <| rX <| rX <| rV <| rA <| rN), (hE rfl <| hE rfl <| hE rfl <| hN), rfl, rfl, (roE rfl <| roE rfl <| roE rfl <| roN)⟩⟩
  ·refine Vf (σ := Bool) (fun s22 => (.any :: .ptr 0 0 :: .ptr 1 0 :: .ptr 2 0 :: a16 (a8 (a2 (.any :: .p (.bool s22) :: a16 (a16 (.any :: []))))) : List AV)) (fun _ => (.cells (iI v.Kind :: iW v.N' :: iS v.Text :: .p (.slice 4 (Q0.rows v.Items)) :: []) :: .cells (iI 0 :: iW 0 :: iS [] :: .p .nilSlice :: []) :: .cells (iI v.Kind :: iW v.N' :: iS v.Text :: .p .nilSlice :: []) :: [] : List AObj)) (fun s22 => We N (Yy rz N v) v s22 = some r) (fun _ _ => lb) ?_ ?_
   ·apply iU h <;> intro h
    ·apply iU h <;> intro h
     ·show Exists _
      exact ⟨((Q8 .neq (Ut .u64 v.N' 12) 0)), h, (fun i => i), ⟨(rA <| rE rfl <| rE rfl <| rE rfl <| rX <| rX <| rX <| rW <| rA <| rE rfl <| rX <| rX <| rX <| rX <| rA <| rN), (hE rfl <| hE rfl <| hE rfl <| hN), rfl, rfl, (roE rfl <| roE rfl <| roE rfl <| roN)⟩⟩
     ·show Exists _
      exact ⟨(false), h, (fun i => i), ⟨(rA <| rE rfl <| rE rfl <| rE rfl <| rX <| rX <| rX <| rW <| rA <| rE rfl <| rX <| rX <| rX <| rX <| rA <| rN), (hE rfl <| hE rfl <| hE rfl <| hN), rfl, rfl, (roE rfl <| roE rfl <| roE rfl <| roN)⟩⟩
    ·show Exists _
     exact ⟨(false), h, (fun i => i), ⟨(rA <| rE rfl <| rE rfl <| rE rfl <| rX <| rX <| rX <| rW <| rA <| rE rfl <| rX <| rX <| rX <| rX <| rA <| rN), (hE rfl <| hE rfl <| hE rfl <| hN), rfl, rfl, (roE rfl <| roE rfl <| roE rfl <| roN)⟩⟩
   rintro s22 h
   dsimp only [We] at h
   apply iU h <;> intro h
   ·show Exists _
    exact ⟨(9221120237041090560), h, (fun i => i), ⟨(rA <| rE rfl <| rE rfl <| rE rfl <| rX <| rX <| rX <| rX <| rX <| rX <| rX <| rV <| rA <| rN), (hE rfl <| hE rfl <| hE rfl <| hN), rfl, rfl, (roE rfl <| roE rfl <| roE rfl <| roN)⟩⟩
   ·show Exists _
    exact ⟨(v.N'), h, (fun i => i), ⟨(rA <| rE rfl <| rE rfl <| rE rfl <| rX <| rX <| rX <| rX <| rX <| rX <| rX <| rV <| rA <| rN), (hE rfl <| hE rfl <| hE rfl <| hN), rfl, rfl, (roE rfl <| roE rfl <| roE rfl <| roN)⟩⟩
 rintro c13 h
 dsimp only [Yy] at h
 refine lpC (τ := Int × (List Q0)) (fun ⟨s39, _⟩ => (.any :: .any :: .ptr 1 0 :: .ptr 2 0 :: a16 (a16 (a8 (a4 (a2 (.p (.slice 4 (Q0.rows v.Items)) :: iI ((Q0.rows v.Items).length : Int) :: iI s39 :: a8 (a4 ([]))))))) : List AV)) (fun ⟨_, l40⟩ => (.cells (iI v.Kind :: iW v.N' :: iS v.Text :: .p (.slice 4 (Q0.rows v.Items)) :: []) :: .cells (iI 0 :: iW 0 :: iS [] :: .p .nilSlice :: []) :: .cells (iI v.Kind :: iW c13 :: iS v.Text :: .slice 4 3 0 l40.length :: []) :: .cells (Xq Q0.cells l40) :: [] : List AObj)) (fun n3 ⟨s39, l40⟩ => Wf rz N v c13 n3 s39 l40) (0, []) h (fun i => i) ⟨(rW <| rE rfl <| rE rfl <| rX <| rX <| rX <| rX <| rX <| rV <| rW <| rE rfl <| rE rfl <| rE rfl <| rX <| rV <| rN), (hE rfl <| hE rfl <| hC rfl (rE rfl <| rE rfl <| rE rfl <| rS <| rN) <| hV lb <| hN), rfl, rfl, (roE rfl <| roE rfl <| roE rfl <| roE (Qb _ _ _) <| roN)⟩ fun n3 ⟨s39, l40⟩ h => ?_
 simp only [Wf] at h
 apply iU h <;> intro h
 ·refine Q0.xR h fun y42 h => ?_
  refine Qw ?_
  refine cD h hy2 (.cons q4 .nil) fun v44 h => ?_
  obtain ⟨hk46, h⟩ := Qgg h
  refine Q72 (Gx (c := Q0.cells) (e := 4) (fun _ => rfl) (by simp) hk46) ?_
  refine Q2n (c := Q0.cells) [v44] rfl ?_
  show Exists _
  exact ⟨(n3, (IntKind.wrap .i64 (s39 + 1)), (l40 ++ [v44])), h, Nat.lt_succ_self _, (rho [0, 1, 2, 6]), ⟨(rW <| rE rfl <| rE rfl <| rX <| rX <| rX <| rX <| rX <| rV <| rW <| rE rfl <| rE rfl <| rE rfl <| rX <| rV <| rN), (hE rfl <| hE rfl <| hC rfl (rE rfl <| rE rfl <| rE rfl <| rL (by simp) rfl <| rN) <| hO rfl <| hN), rfl, rfl, (roE rfl <| roE rfl <| roE rfl <| roE (Qb _ _ _) <| roN)⟩⟩
 ·obtain rfl := Ql h; exact (Frz.agg' (.cons (.p _) (.cons (.p _) (.cons (.p _) (.cons (Q0.frz_own (l := l40) rfl trivial (by simp)) .nil)))))
def W7 : Nat → Q0 → Option (Q0)
 | 0 => fun _ => none
 | N + 1 => U3 (W7 N) N
theorem Q4n {N} {v} {r} (h : W7 N v = some r) : Zp Tryz.prog G1 21 [.agg (Q0.cells v)] (.agg (Q0.cells r)) := by
 induction N generalizing v r with
 | zero => simp [W7] at h
 | succ N ih => exact Q51 (fun h => ih h) h
def V1 (_N : Nat) (kind : Int) : Option (Bool) :=
 cond (Q8 .eql kind 15)
 (some true)
 (cond (Q8 .eql kind 18)
 (some true)
 (cond (Q8 .eql kind 19)
 (some true)
 (cond (Q8 .eql kind 20)
 (some true)
 (cond (Q8 .eql kind 21)
 (some true)
 (some false)))))
theorem G7 {N} {kind} {r} (h : V1 N kind = some r) : Zp Tryz.prog G1 112 [.int .i64 kind] (.bool r) := by
 refine Q4 Quu ?_
 unfold V1 at h
 refine ifO h (fun hc1 h => ?_) (fun hc1 h => ?_)
 ·refine ifT hc1 ?_
  cases h; exact (.p _)
 ·refine ifO h (fun hc2 h => ?_) (fun hc2 h => ?_)
  ·refine ifT hc2 ?_
   cases h; exact (.p _)
  ·refine ifO h (fun hc3 h => ?_) (fun hc3 h => ?_)
   ·refine ifT hc3 ?_
    cases h; exact (.p _)
   ·refine ifO h (fun hc4 h => ?_) (fun hc4 h => ?_)
    ·refine ifT hc4 ?_
     cases h; exact (.p _)
    ·apply iU h <;> intro h
     ·cases h; exact (.p _)
     ·cases h; exact (.p _)
def Qk (_N : Nat) (s_0 : List UInt8) : Option (Int) :=
 (idx s_0 0).bind fun b1 =>
 (idx s_0 1).bind fun b3 =>
 (idx s_0 2).bind fun b5 =>
 (idx s_0 3).bind fun b7 =>
 (idx s_0 4).bind fun b9 =>
 (idx s_0 5).bind fun b11 =>
 (idx s_0 6).bind fun b13 =>
 (idx s_0 7).bind fun b15 =>
 some (orI .u64 (orI .u64 (orI .u64 (orI .u64 (orI .u64 (orI .u64 (orI .u64 (IntKind.wrap .u64 (b1.toNat : Int)) (Ut .u64 (IntKind.wrap .u64 (b3.toNat : Int)) 8)) (Ut .u64 (IntKind.wrap .u64 (b5.toNat : Int)) 16)) (Ut .u64 (IntKind.wrap .u64 (b7.toNat : Int)) 24)) (Ut .u64 (IntKind.wrap .u64 (b9.toNat : Int)) 32)) (Ut .u64 (IntKind.wrap .u64 (b11.toNat : Int)) 40)) (Ut .u64 (IntKind.wrap .u64 (b13.toNat : Int)) 48)) (Ut .u64 (IntKind.wrap .u64 (b15.toNat : Int)) 56))
theorem Z0 {N} {s_0} {r} (h : Qk N s_0 = some r) : Zp Tryz.prog G1 154 [.str s_0] (.int .u64 r) := by
 refine Q4 Qvc ?_
 unfold Qk at h
 refine Qw ?_
 refine xB h fun b1 h => ?_
 refine xB h fun b3 h => ?_
 refine xB h fun b5 h => ?_
 refine xB h fun b7 h => ?_
 refine xB h fun b9 h => ?_
 refine xB h fun b11 h => ?_
 refine xB h fun b13 h => ?_
 refine xB h fun b15 h => ?_
 cases h; exact (.p _)
def Zd (N : Nat) (k0 : (List UInt8) → Option (Bool)) : Nat → (List UInt8) → Option (Bool)
 | 0, _ => none
 | n + 1, s272 =>
  cond (Q8 .gtr (s272.length : Int) 32)
  ((Qk N s272).bind fun v274 =>
  cond (Nat.ble 8 s272.length && Nat.ble s272.length s272.length) ((Qk N ((s272.take s272.length).drop 8)).bind fun v277 =>
  cond (Nat.ble 16 s272.length && Nat.ble s272.length s272.length) ((Qk N ((s272.take s272.length).drop 16)).bind fun v280 =>
  cond (Nat.ble 24 s272.length && Nat.ble s272.length s272.length) ((Qk N ((s272.take s272.length).drop 24)).bind fun v283 =>
  cond (Q8 .eql (Jw .u64 (orI .u64 (orI .u64 v274 v277) (orI .u64 v280 v283)) 9259542123273814144) 0)
  (cond (Nat.ble 32 s272.length && Nat.ble s272.length s272.length) (Zd N k0 n ((s272.take s272.length).drop 32)) none)
  (k0 s272)) none) none) none)
  (k0 s272)
def Q3 (N : Nat) : Nat → (List UInt8) → Option (Bool)
 | 0, _ => none
 | n + 1, s224 =>
  cond (Q8 .gtr (s224.length : Int) 0)
  ((idx s224 0).bind fun b226 =>
  cond (Q8 .lss (b226.toNat : Int) 128)
  (cond (Nat.ble 1 s224.length && Nat.ble s224.length s224.length) (cond (Q8 .gtr (((s224.take s224.length).drop 1).length : Int) 8)
  ((Qk N ((s224.take s224.length).drop 1)).bind fun v231 =>
  cond (Q8 .eql (Jw .u64 v231 9259542123273814144) 0)
  (cond (Nat.ble 8 (((s224.take s224.length).drop 1).length) && Nat.ble (((s224.take s224.length).drop 1).length) ((s224.take s224.length).drop 1).length) (cond (Q8 .gtr (((((s224.take s224.length).drop 1).take (((s224.take s224.length).drop 1).length)).drop 8).length : Int) 16)
  ((Qk N ((((s224.take s224.length).drop 1).take (((s224.take s224.length).drop 1).length)).drop 8)).bind fun v236 =>
  cond (Nat.ble 8 (((((s224.take s224.length).drop 1).take (((s224.take s224.length).drop 1).length)).drop 8).length) && Nat.ble (((((s224.take s224.length).drop 1).take (((s224.take s224.length).drop 1).length)).drop 8).length) ((((s224.take s224.length).drop 1).take (((s224.take s224.length).drop 1).length)).drop 8).length) ((Qk N ((((((s224.take s224.length).drop 1).take (((s224.take s224.length).drop 1).length)).drop 8).take (((((s224.take s224.length).drop 1).take (((s224.take s224.length).drop 1).length)).drop 8).length)).drop 8)).bind fun v239 =>
  cond (Q8 .eql (Jw .u64 (orI .u64 v236 v239) 9259542123273814144) 0)
  (cond (Nat.ble 16 (((((s224.take s224.length).drop 1).take (((s224.take s224.length).drop 1).length)).drop 8).length) && Nat.ble (((((s224.take s224.length).drop 1).take (((s224.take s224.length).drop 1).length)).drop 8).length) ((((s224.take s224.length).drop 1).take (((s224.take s224.length).drop 1).length)).drop 8).length) (Zd N (Q3 N n) N ((((((s224.take s224.length).drop 1).take (((s224.take s224.length).drop 1).length)).drop 8).take (((((s224.take s224.length).drop 1).take (((s224.take s224.length).drop 1).length)).drop 8).length)).drop 16)) none)
  (Q3 N n ((((s224.take s224.length).drop 1).take (((s224.take s224.length).drop 1).length)).drop 8))) none)
  (Q3 N n ((((s224.take s224.length).drop 1).take (((s224.take s224.length).drop 1).length)).drop 8))) none)
  (Q3 N n ((s224.take s224.length).drop 1)))
  (Q3 N n ((s224.take s224.length).drop 1))) none)
  ((idx gtab0 (b226.toNat : Int)).bind fun y287 =>
  (idx gtab1 (Q1d .u8 y287 4)).bind fun y289 =>
  cond (Q8 .eql (IntKind.wrap .i64 (Jw .u8 y287 7)) 2)
  (cond (Q8 .lss (s224.length : Int) 2)
  (some false)
  ((idx s224 1).bind fun b293 =>
  cond (Q8 .lss (b293.toNat : Int) y289.1)
  (some false)
  ((idx s224 1).bind fun b296 =>
  cond (Q8 .lss y289.2 (b296.toNat : Int))
  (some false)
  (cond (Nat.ble 2 s224.length && Nat.ble s224.length s224.length) (Q3 N n ((s224.take s224.length).drop 2)) none))))
  (cond (Q8 .eql (IntKind.wrap .i64 (Jw .u8 y287 7)) 3)
  (cond (Q8 .lss (s224.length : Int) 3)
  (some false)
  ((idx s224 1).bind fun b302 =>
  cond (Q8 .lss (b302.toNat : Int) y289.1)
  (some false)
  ((idx s224 1).bind fun b305 =>
  cond (Q8 .lss y289.2 (b305.toNat : Int))
  (some false)
  ((idx s224 2).bind fun b308 =>
  cond (Q8 .lss (b308.toNat : Int) 128)
  (some false)
  ((idx s224 2).bind fun b311 =>
  cond (Q8 .lss 191 (b311.toNat : Int))
  (some false)
  (cond (Nat.ble 3 s224.length && Nat.ble s224.length s224.length) (Q3 N n ((s224.take s224.length).drop 3)) none))))))
  (cond (Q8 .eql (IntKind.wrap .i64 (Jw .u8 y287 7)) 4)
  (cond (Q8 .lss (s224.length : Int) 4)
  (some false)
  ((idx s224 1).bind fun b317 =>
  cond (Q8 .lss (b317.toNat : Int) y289.1)
  (some false)
  ((idx s224 1).bind fun b320 =>
  cond (Q8 .lss y289.2 (b320.toNat : Int))
  (some false)
  ((idx s224 2).bind fun b323 =>
  cond (Q8 .lss (b323.toNat : Int) 128)
  (some false)
  ((idx s224 2).bind fun b326 =>
  cond (Q8 .lss 191 (b326.toNat : Int))
  (some false)
  ((idx s224 3).bind fun b329 =>
  cond (Q8 .lss (b329.toNat : Int) 128)
  (some false)
  ((idx s224 3).bind fun b332 =>
  cond (Q8 .lss 191 (b332.toNat : Int))
  (some false)
  (cond (Nat.ble 4 s224.length && Nat.ble s224.length s224.length) (Q3 N n ((s224.take s224.length).drop 4)) none))))))))
  (some false)))))
  (some true)
def Xt (N : Nat) (s_0 : List UInt8) : Option (Bool) :=
 Q3 N N s_0
theorem Jx {N} {s_0} {r} (h : Xt N s_0 = some r) : Zp Tryz.prog G1 132 [.str s_0] (.bool r) := by
 refine Q4 Qvk ?_
 unfold Xt at h
 refine lpC (τ := (List UInt8)) (fun s224 => (iS s224 :: a16 (a16 (a16 (a16 (a16 (a16 (a16 (a16 (a16 (a16 (a8 ([]))))))))))) : List AV)) (fun _ => ([] : List AObj)) (fun n0 s224 => Q3 N n0 s224) (s_0) h (fun i => i) ⟨(rE rfl <| rX <| rX <| rX <| rX <| rX <| rX <| rX <| rX <| rX <| rX <| rX <| rX <| rX <| rX <| rX <| rX <| rX <| rX <| rX <| rX <| rX <| rN), (hN), rfl, rfl, (roN)⟩ fun n0 s224 h => ?_
 simp only [Q3] at h
 apply iU h <;> intro h
 ·refine xB h fun b226 h => ?_
  apply iU h <;> intro h
  ·refine kU h fun h => ?_
   apply iU h <;> intro h
   ·refine cP h Z0 p1 fun v231 h => ?_
    apply iU h <;> intro h
    ·refine kU h fun h => ?_
     refine Qw ?_
     apply iU h <;> intro h
     ·refine cD h Z0 p1 fun v236 h => ?_
      refine kU h fun h => ?_
      refine cD h Z0 p1 fun v239 h => ?_
      apply iU h <;> intro h
      ·refine kU h fun h => ?_
       refine lpC (τ := (List UInt8)) (fun s272 => (iS s272 :: a16 (a16 (a16 (a16 (a16 (a16 (a16 (a16 (a16 (a16 (a8 ([]))))))))))) : List AV)) (fun _ => ([] : List AObj)) (fun n1 s272 => Zd N (Q3 N n0) n1 s272) (((((((s224.take s224.length).drop 1).take (((s224.take s224.length).drop 1).length)).drop 8).take (((((s224.take s224.length).drop 1).take (((s224.take s224.length).drop 1).length)).drop 8).length)).drop 16)) h (fun i => i) ⟨(rE rfl <| rX <| rX <| rX <| rX <| rX <| rX <| rX <| rX <| rX <| rX <| rX <| rX <| rX <| rX <| rX <| rX <| rX <| rX <| rX <| rX <| rX <| rN), (hN), rfl, rfl, (roN)⟩ fun n1 s272 h => ?_
       simp only [Zd] at h
       refine Qw ?_
       apply iU h <;> intro h
       ·refine cD h Z0 p1 fun v274 h => ?_
        refine kU h fun h => ?_
        refine cD h Z0 p1 fun v277 h => ?_
        refine kU h fun h => ?_
        refine cD h Z0 p1 fun v280 h => ?_
        refine kU h fun h => ?_
        refine cD h Z0 p1 fun v283 h => ?_
        apply iU h <;> intro h
        ·refine kU h fun h => ?_
         show Exists _
         exact ⟨(n1, ((s272.take s272.length).drop 32)), h, Nat.lt_succ_self _, (fun i => i), ⟨(rE rfl <| rX <| rX <| rX <| rX <| rX <| rX <| rX <| rX <| rX <| rX <| rX <| rX <| rX <| rX <| rX <| rX <| rX <| rX <| rX <| rX <| rX <| rN), (hN), rfl, rfl, (roN)⟩⟩
        ·show Exists _
         exact ⟨(n0, s272), h, Nat.lt_succ_self _, (fun i => i), ⟨(rE rfl <| rX <| rX <| rX <| rX <| rX <| rX <| rX <| rX <| rX <| rX <| rX <| rX <| rX <| rX <| rX <| rX <| rX <| rX <| rX <| rX <| rX <| rN), (hN), rfl, rfl, (roN)⟩⟩
       ·show Exists _
        exact ⟨(n0, s272), h, Nat.lt_succ_self _, (fun i => i), ⟨(rE rfl <| rX <| rX <| rX <| rX <| rX <| rX <| rX <| rX <| rX <| rX <| rX <| rX <| rX <| rX <| rX <| rX <| rX <| rX <| rX <| rX <| rX <| rN), (hN), rfl, rfl, (roN)⟩⟩
      ·show Exists _
       exact ⟨(n0, ((((s224.take s224.length).drop 1).take (((s224.take s224.length).drop 1).length)).drop 8)), h, Nat.lt_succ_self _, (fun i => i), ⟨(rE rfl <| rX <| rX <| rX <| rX <| rX <| rX <| rX <| rX <| rX <| rX <| rX <| rX <| rX <| rX <| rX <| rX <| rX <| rX <| rX <| rX <| rX <| rN), (hN), rfl, rfl, (roN)⟩⟩
     ·show Exists _
      exact ⟨(n0, ((((s224.take s224.length).drop 1).take (((s224.take s224.length).drop 1).length)).drop 8)), h, Nat.lt_succ_self _, (fun i => i), ⟨(rE rfl <| rX <| rX <| rX <| rX <| rX <| rX <| rX <| rX <| rX <| rX <| rX <| rX <| rX <| rX <| rX <| rX <| rX <| rX <| rX <| rX <| rX <| rN), (hN), rfl, rfl, (roN)⟩⟩
    ·show Exists _
     exact ⟨(n0, ((s224.take s224.length).drop 1)), h, Nat.lt_succ_self _, (fun i => i), ⟨(rE rfl <| rX <| rX <| rX <| rX <| rX <| rX <| rX <| rX <| rX <| rX <| rX <| rX <| rX <| rX <| rX <| rX <| rX <| rX <| rX <| rX <| rX <| rN), (hN), rfl, rfl, (roN)⟩⟩
   ·show Exists _
    exact ⟨(n0, ((s224.take s224.length).drop 1)), h, Nat.lt_succ_self _, (fun i => i), ⟨(rE rfl <| rX <| rX <| rX <| rX <| rX <| rX <| rX <| rX <| rX <| rX <| rX <| rX <| rX <| rX <| rX <| rX <| rX <| rX <| rX <| rX <| rX <| rN), (hN), rfl, rfl, (roN)⟩⟩
  ·obtain ⟨y287, hy288, h⟩ := Q5w h
   refine Q72 (Qba hy288 Qjr) ?_
   refine Qj7 (c := (cI .u8)) (e := 1) (fun _ => rfl) Qn2 hy288 (off := 0) (by decide) (by first | omega | (simp only [Jw, orI, Qsj, Qan, Ut, Q1d]; omega)) ?_
   obtain ⟨y289, hy290, h⟩ := Q5w h
   refine Q72 (Qba hy290 Qk5) ?_
   refine Qj7 (c := cUU) (e := 2) (fun _ => rfl) Qn8 hy290 (off := 0) (by decide) (by first | omega | (simp only [Jw, orI, Qsj, Qan, Ut, Q1d]; omega)) ?_
   apply iU h <;> intro h
   ·refine Qw ?_
    apply iU h <;> intro h
    ·cases h; exact (.p _)
    ·refine xB h fun b293 h => ?_
     apply iU h <;> intro h
     ·cases h; exact (.p _)
     ·refine xB h fun b296 h => ?_
      apply iU h <;> intro h
      ·cases h; exact (.p _)
      ·refine kU h fun h => ?_
       show Exists _
       exact ⟨(n0, ((s224.take s224.length).drop 2)), h, Nat.lt_succ_self _, (fun i => i), ⟨(rE rfl <| rX <| rX <| rX <| rX <| rX <| rX <| rX <| rX <| rX <| rX <| rX <| rX <| rX <| rX <| rX <| rX <| rX <| rX <| rX <| rX <| rX <| rN), (hN), rfl, rfl, (roN)⟩⟩
   ·apply iU h <;> intro h
    ·refine Qw ?_
     apply iU h <;> intro h
     ·cases h; exact (.p _)
     ·refine xB h fun b302 h => ?_
      apply iU h <;> intro h
      ·cases h; exact (.p _)
      ·refine xB h fun b305 h => ?_
       apply iU h <;> intro h
       ·cases h; exact (.p _)
       ·refine xB h fun b308 h => ?_
        apply iU h <;> intro h
        ·cases h; exact (.p _)
        ·refine xB h fun b311 h => ?_
         apply iU h <;> intro h
         ·cases h; exact (.p _)
         ·refine kU h fun h => ?_
          show Exists _
          exact ⟨(n0, ((s224.take s224.length).drop 3)), h, Nat.lt_succ_self _, (fun i => i), ⟨(rE rfl <| rX <| rX <| rX <| rX <| rX <| rX <| rX <| rX <| rX <| rX <| rX <| rX <| rX <| rX <| rX <| rX <| rX <| rX <| rX <| rX <| rX <| rN), (hN), rfl, rfl, (roN)⟩⟩
    ·apply iU h <;> intro h
     ·refine Qw ?_
      apply iU h <;> intro h
      ·cases h; exact (.p _)
      ·refine xB h fun b317 h => ?_
       apply iU h <;> intro h
       ·cases h; exact (.p _)
       ·refine xB h fun b320 h => ?_
        apply iU h <;> intro h
        ·cases h; exact (.p _)
        ·refine xB h fun b323 h => ?_
         apply iU h <;> intro h
         ·cases h; exact (.p _)
         ·refine xB h fun b326 h => ?_
          apply iU h <;> intro h
          ·cases h; exact (.p _)
          ·refine xB h fun b329 h => ?_
           apply iU h <;> intro h
           ·cases h; exact (.p _)
           ·refine xB h fun b332 h => ?_
            apply iU h <;> intro h
            ·cases h; exact (.p _)
            ·refine kU h fun h => ?_
             show Exists _
             exact ⟨(n0, ((s224.take s224.length).drop 4)), h, Nat.lt_succ_self _, (fun i => i), ⟨(rE rfl <| rX <| rX <| rX <| rX <| rX <| rX <| rX <| rX <| rX <| rX <| rX <| rX <| rX <| rX <| rX <| rX <| rX <| rX <| rX <| rX <| rX <| rN), (hN), rfl, rfl, (roN)⟩⟩
     ·cases h; exact (.p _)
 ·cases h; exact (.p _)
def V0 (N : Nat) (v : Q0) : Nat → Int → Option (Int)
 | 0, _ => none
 | n + 1, s15 =>
  cond (Q8 .lss s15 (v.Text.length : Int))
  ((idx v.Text s15).bind fun b17 =>
  cond (Q8 .geq (b17.toNat : Int) 128)
  (some 6)
  (V0 N v n (IntKind.wrap .i64 (s15 + 1))))
  (some 0)
def Xi (N : Nat) (v : Q0) : Option (Int) :=
 cond (Q8 .eql v.Kind 20)
 ((Xt N v.Text).bind fun v2 =>
 cond (!v2)
 (some 6)
 (some 0))
 (cond (Q8 .eql v.Kind 21)
 (V0 N v N 0)
 (some 0))
theorem V3 {N} {v} {r} (h : Xi N v = some r) : Zp Tryz.prog G1 113 [.agg (Q0.cells v)] (.int .i64 r) := by
 refine Q4 Qux ?_
 unfold Xi at h
 apply iU h <;> intro h
 ·refine cP h Jx p1 fun v2 h => ?_
  apply iU h <;> intro h
  ·cases h; exact (.p _)
  ·cases h; exact (.p _)
 ·apply iU h <;> intro h
  ·refine lpC (τ := Int) (fun s15 => (.any :: .ptr 0 0 :: a8 (a4 (a2 (iI (v.Text.length : Int) :: iI s15 :: a8 ([])))) : List AV)) (fun _ => (.cells (iI v.Kind :: iW v.N' :: iS v.Text :: .p (.slice 4 (Q0.rows v.Items)) :: []) :: [] : List AObj)) (fun n0 s15 => V0 N v n0 s15) (0) h (fun i => i) ⟨(rA <| rE rfl <| rX <| rV <| rW <| rE rfl <| rE rfl <| rX <| rN), (hE rfl <| hN), rfl, rfl, (roE rfl <| roN)⟩ fun n0 s15 h => ?_
   simp only [V0] at h
   apply iU h <;> intro h
   ·refine xB h fun b17 h => ?_
    apply iU h <;> intro h
    ·cases h; exact (.p _)
    ·show Exists _
     exact ⟨(n0, (IntKind.wrap .i64 (s15 + 1))), h, Nat.lt_succ_self _, (fun i => i), ⟨(rA <| rE rfl <| rX <| rV <| rW <| rE rfl <| rE rfl <| rX <| rN), (hE rfl <| hN), rfl, rfl, (roE rfl <| roN)⟩⟩
   ·cases h; exact (.p _)
  ·cases h; exact (.p _)
def Vy (_N : Nat) (kind : Int) : Option (Int × Bool) :=
 cond (Q8 .eql kind 2)
 (some (1, false))
 (cond (Q8 .eql kind 3)
 (some (8, false))
 (cond (Q8 .eql kind 4)
 (some (16, false))
 (cond (Q8 .eql kind 5)
 (some (32, false))
 (cond (Q8 .eql kind 11)
 (some (32, false))
 (cond (Q8 .eql kind 13)
 (some (32, false))
 (cond (Q8 .eql kind 16)
 (some (32, false))
 (cond (Q8 .eql kind 6)
 (some (64, false))
 (cond (Q8 .eql kind 12)
 (some (64, false))
 (cond (Q8 .eql kind 14)
 (some (64, false))
 (cond (Q8 .eql kind 7)
 (some (8, true))
 (cond (Q8 .eql kind 8)
 (some (16, true))
 (cond (Q8 .eql kind 9)
 (some (32, true))
 (cond (Q8 .eql kind 10)
 (some (64, true))
 (cond (Q8 .eql kind 17)
 (some (64, true))
 (some (0, false))))))))))))))))
theorem Q14 {N} {kind} {r} (h : Vy N kind = some r) : Zp Tryz.prog G1 109 [.int .i64 kind] (.tuple [.int .i64 r.1, .bool r.2]) := by
 refine Q4 Qw9 ?_
 unfold Vy at h
 apply iU h <;> intro h
 ·obtain rfl := Ql h; exact u2
 ·apply iU h <;> intro h
  ·obtain rfl := Ql h; exact u2
  ·apply iU h <;> intro h
   ·obtain rfl := Ql h; exact u2
   ·refine ifO h (fun hc4 h => ?_) (fun hc4 h => ?_)
    ·refine ifT hc4 ?_
     obtain rfl := Ql h; exact u2
    ·refine ifO h (fun hc5 h => ?_) (fun hc5 h => ?_)
     ·refine ifT hc5 ?_
      obtain rfl := Ql h; exact u2
     ·refine ifO h (fun hc6 h => ?_) (fun hc6 h => ?_)
      ·refine ifT hc6 ?_
       obtain rfl := Ql h; exact u2
      ·apply iU h <;> intro h
       ·obtain rfl := Ql h; exact u2
       ·refine ifO h (fun hc8 h => ?_) (fun hc8 h => ?_)
        ·refine ifT hc8 ?_
         obtain rfl := Ql h; exact u2
        ·refine ifO h (fun hc9 h => ?_) (fun hc9 h => ?_)
         ·refine ifT hc9 ?_
          obtain rfl := Ql h; exact u2
         ·apply iU h <;> intro h
          ·obtain rfl := Ql h; exact u2
          ·apply iU h <;> intro h
           ·obtain rfl := Ql h; exact u2
           ·apply iU h <;> intro h
            ·obtain rfl := Ql h; exact u2
            ·apply iU h <;> intro h
             ·obtain rfl := Ql h; exact u2
             ·refine ifO h (fun hc14 h => ?_) (fun hc14 h => ?_)
              ·refine ifT hc14 ?_
               obtain rfl := Ql h; exact u2
              ·apply iU h <;> intro h
               ·obtain rfl := Ql h; exact u2
               ·obtain rfl := Ql h; exact u2
def Wc (_N : Nat) (n_0 : Int) (bits : Int) (signed : Bool) : Option (Bool) :=
 cond signed
 (cond (decide (0 ≤ (IntKind.wrap .i64 (bits - 1)))) (cond (Q8 .geq (IntKind.wrap .i64 n_0) (Ut .i64 (-1) (IntKind.wrap .i64 (bits - 1))))
 (some (Q8 .leq (IntKind.wrap .i64 n_0) (IntKind.wrap .i64 (0 - (IntKind.wrap .i64 ((Ut .i64 (-1) (IntKind.wrap .i64 (bits - 1))) + 1))))))
 (some false)) none)
 (cond (Q8 .eql bits 64)
 (some true)
 (cond (decide (0 ≤ bits)) (some (Q8 .eql (Q1d .u64 n_0 bits) 0)) none))
theorem Ju {N} {n_0} {bits} {signed} {r} (h : Wc N n_0 bits signed = some r) : Zp Tryz.prog G1 110 [.int .u64 n_0, .int .i64 bits, .bool signed] (.bool r) := by
 refine Q4 Qv7 ?_
 unfold Wc at h
 apply iU h <;> intro h
 ·refine kU h fun h => ?_
  apply iU h <;> intro h
  ·cases h; exact (.p _)
  ·cases h; exact (.p _)
 ·apply iU h <;> intro h
  ·cases h; exact (.p _)
  ·refine kU h fun h => ?_
   cases h; exact (.p _)
def Wh (_N : Nat) (r_0 : Int) : Option (Bool) :=
 cond (Q8 .leq 0 r_0)
 (cond (Q8 .lss r_0 55296)
 (some true)
 (cond (Q8 .lss 57343 r_0)
 (cond (Q8 .leq r_0 1114111)
 (some true)
 (some false))
 (some false)))
 (cond (Q8 .lss 57343 r_0)
 (cond (Q8 .leq r_0 1114111)
 (some true)
 (some false))
 (some false))
theorem Gt {N} {r_0} {r} (h : Wh N r_0 = some r) : Zp Tryz.prog G1 131 [.int .i32 r_0] (.bool r) := by
 refine Q4 Qv2 ?_
 unfold Wh at h
 apply iU h <;> intro h
 ·apply iU h <;> intro h
  ·cases h; exact (.p _)
  ·apply iU h <;> intro h
   ·apply iU h <;> intro h
    ·cases h; exact (.p _)
    ·cases h; exact (.p _)
   ·cases h; exact (.p _)
 ·apply iU h <;> intro h
  ·apply iU h <;> intro h
   ·cases h; exact (.p _)
   ·cases h; exact (.p _)
  ·cases h; exact (.p _)
def Va (N : Nat) (n_0 : Int) : Option (Bool) :=
 cond (Q8 .leq n_0 1114111)
 ((Wh N (IntKind.wrap .i32 n_0)).bind fun v2 =>
 some v2)
 (some false)
theorem Q2e {N} {n_0} {r} (h : Va N n_0 = some r) : Zp Tryz.prog G1 111 [.int .u64 n_0] (.bool r) := by
 refine Q4 Qwf ?_
 unfold Va at h
 apply iU h <;> intro h
 ·refine cP h Gt p1 fun v2 h => ?_
  cases h; exact (.p _)
 ·cases h; exact (.p _)
def V8 (N : Nat) (v : Q0) : Option (Int) :=
 cond (Q8 .lss v.Kind 1)
 (some 8)
 (cond (Q8 .gtr v.Kind 21)
 (some 8)
 ((Vy N v.Kind).bind fun v3 =>
 (Wc N v.N' v3.1 v3.2).bind fun v5 =>
 cond (!v5)
 (some 2)
 (cond (Q8 .eql v.Kind 16)
 ((Va N v.N').bind fun v9 =>
 cond (!v9)
 (some 2)
 (cond (Q8 .neq ((Q0.rows v.Items).length : Int) 0)
 (some 2)
 ((V1 N v.Kind).bind fun v13 =>
 cond (!v13)
 (cond (Q3o .neq v.Text [])
 (some 2)
 (some 0))
 (cond (Q8 .eql v.Kind 15)
 (cond (Q8 .neq (v.Text.length : Int) 16)
 (some 2)
 (cond (Q8 .gtr (v.Text.length : Int) 1048576)
 (some 4)
 ((Xi N v).bind fun v20 =>
 some v20)))
 (cond (Q8 .eql v.Kind 18)
 (cond (Q8 .neq (v.Text.length : Int) 16)
 (some 2)
 (cond (Q8 .gtr (v.Text.length : Int) 1048576)
 (some 4)
 ((Xi N v).bind fun v25 =>
 some v25)))
 (cond (Q8 .gtr (v.Text.length : Int) 1048576)
 (some 4)
 ((Xi N v).bind fun v28 =>
 some v28)))))))
 (cond (Q8 .neq ((Q0.rows v.Items).length : Int) 0)
 (some 2)
 ((V1 N v.Kind).bind fun v31 =>
 cond (!v31)
 (cond (Q3o .neq v.Text [])
 (some 2)
 (some 0))
 (cond (Q8 .eql v.Kind 15)
 (cond (Q8 .neq (v.Text.length : Int) 16)
 (some 2)
 (cond (Q8 .gtr (v.Text.length : Int) 1048576)
 (some 4)
 ((Xi N v).bind fun v38 =>
 some v38)))
 (cond (Q8 .eql v.Kind 18)
 (cond (Q8 .neq (v.Text.length : Int) 16)
 (some 2)
 (cond (Q8 .gtr (v.Text.length : Int) 1048576)
 (some 4)
 ((Xi N v).bind fun v43 =>
 some v43)))
 (cond (Q8 .gtr (v.Text.length : Int) 1048576)
 (some 4)
 ((Xi N v).bind fun v46 =>
 some v46)))))))))
theorem Jf {N} {v} {r} (h : V8 N v = some r) : Zp Tryz.prog G1 89 [.agg (Q0.cells v)] (.int .i64 r) := by
 refine Q4 k89 ?_
 unfold V8 at h
 apply iU h <;> intro h
 ·cases h; exact (.p _)
 ·apply iU h <;> intro h
  ·cases h; exact (.p _)
  ·refine cP h Q14 p1 fun v3 h => ?_
   refine cP h Ju p3 fun v5 h => ?_
   apply iU h <;> intro h
   ·cases h; exact (.p _)
   ·apply iU h <;> intro h
    ·refine cP h Q2e p1 fun v9 h => ?_
     apply iU h <;> intro h
     ·cases h; exact (.p _)
     ·apply iU h <;> intro h
      ·cases h; exact (.p _)
      ·refine cP h G7 p1 fun v13 h => ?_
       apply iU h <;> intro h
       ·apply iU h <;> intro h
        ·cases h; exact (.p _)
        ·cases h; exact (.p _)
       ·apply iU h <;> intro h
        ·apply iU h <;> intro h
         ·cases h; exact (.p _)
         ·apply iU h <;> intro h
          ·cases h; exact (.p _)
          ·refine cP h V3 (.cons q4 .nil) fun v20 h => ?_
           cases h; exact (.p _)
        ·apply iU h <;> intro h
         ·apply iU h <;> intro h
          ·cases h; exact (.p _)
          ·apply iU h <;> intro h
           ·cases h; exact (.p _)
           ·refine cP h V3 (.cons q4 .nil) fun v25 h => ?_
            cases h; exact (.p _)
         ·apply iU h <;> intro h
          ·cases h; exact (.p _)
          ·refine cP h V3 (.cons q4 .nil) fun v28 h => ?_
           cases h; exact (.p _)
    ·apply iU h <;> intro h
     ·cases h; exact (.p _)
     ·refine cP h G7 p1 fun v31 h => ?_
      apply iU h <;> intro h
      ·apply iU h <;> intro h
       ·cases h; exact (.p _)
       ·cases h; exact (.p _)
      ·apply iU h <;> intro h
       ·apply iU h <;> intro h
        ·cases h; exact (.p _)
        ·apply iU h <;> intro h
         ·cases h; exact (.p _)
         ·refine cP h V3 (.cons q4 .nil) fun v38 h => ?_
          cases h; exact (.p _)
       ·apply iU h <;> intro h
        ·apply iU h <;> intro h
         ·cases h; exact (.p _)
         ·apply iU h <;> intro h
          ·cases h; exact (.p _)
          ·refine cP h V3 (.cons q4 .nil) fun v43 h => ?_
           cases h; exact (.p _)
        ·apply iU h <;> intro h
         ·cases h; exact (.p _)
         ·refine cP h V3 (.cons q4 .nil) fun v46 h => ?_
          cases h; exact (.p _)
def Vo (_N : Nat) (v : Q0) : Option (Bool) :=
 cond (Q3o .neq v.Text [])
 (some false)
 (cond (Q8 .eql v.Kind 24)
 (cond (Q8 .geq v.N' 1)
 (some (Q8 .leq v.N' 24))
 (some false))
 (cond (Q8 .neq v.N' 0)
 (some false)
 (cond (Q8 .eql v.Kind 25)
 (some (Q8 .eql ((Q0.rows v.Items).length : Int) 2))
 (cond (Q8 .eql v.Kind 23)
 (some (Q8 .eql ((((Q0.rows v.Items).length : Int) : Int).tmod 2) 0))
 (some true)))))
theorem Q3l {N} {v} {r} (h : Vo N v = some r) : Zp Tryz.prog G1 90 [.agg (Q0.cells v)] (.bool r) := by
 refine Q4 k90 ?_
 unfold Vo at h
 apply iU h <;> intro h
 ·cases h; exact (.p _)
 ·apply iU h <;> intro h
  ·apply iU h <;> intro h
   ·cases h; exact (.p _)
   ·cases h; exact (.p _)
  ·apply iU h <;> intro h
   ·cases h; exact (.p _)
   ·apply iU h <;> intro h
    ·cases h; exact (.p _)
    ·apply iU h <;> intro h
     ·cases h; exact (.p _)
     ·cases h; exact (.p _)
def Z6 (_N : Nat) (v : Q0) : Option (Bool) :=
 cond (Q8 .eql v.Kind 11)
 (cond (Q8 .eql (Jw .u64 (Q1d .u64 v.N' 23) 255) 255)
 (some (Q8 .neq (Ut .u64 v.N' 41) 0))
 (some false))
 (cond (Q8 .eql v.Kind 12)
 (cond (Q8 .eql (Jw .u64 (Q1d .u64 v.N' 52) 2047) 2047)
 (some (Q8 .neq (Ut .u64 v.N' 12) 0))
 (some false))
 (some false))
theorem Jm {N} {v} {r} (h : Z6 N v = some r) : Zp Tryz.prog G1 133 [.agg (Q0.cells v)] (.bool r) := by
 refine Q4 Qvy ?_
 unfold Z6 at h
 apply iU h <;> intro h
 ·apply iU h <;> intro h
  ·cases h; exact (.p _)
  ·cases h; exact (.p _)
 ·apply iU h <;> intro h
  ·apply iU h <;> intro h
   ·cases h; exact (.p _)
   ·cases h; exact (.p _)
  ·cases h; exact (.p _)
def Xx (rv1 : Q0 → Q0 → Option (Bool)) (N : Nat) (a : Q0) (b : Q0) : Nat → Int → Option (Bool)
 | 0, _ => none
 | n + 1, s28 =>
  cond (Q8 .lss s28 ((Q0.rows a.Items).length : Int))
  ((idx a.Items s28).bind fun y30 =>
  (idx b.Items s28).bind fun y32 =>
  (rv1 y30 y32).bind fun v34 =>
  cond (!v34)
  (some false)
  (Xx rv1 N a b n (IntKind.wrap .i64 (s28 + 1))))
  (some true)
def Xw (rv1 : Q0 → Q0 → Option (Bool)) (N : Nat) (a : Q0) (b : Q0) : Nat → Int → Option (Bool)
 | 0, _ => none
 | n + 1, s54 =>
  cond (Q8 .lss s54 ((Q0.rows a.Items).length : Int))
  ((idx a.Items s54).bind fun y56 =>
  (idx b.Items s54).bind fun y58 =>
  (rv1 y56 y58).bind fun v60 =>
  cond (!v60)
  (some false)
  (Xw rv1 N a b n (IntKind.wrap .i64 (s54 + 1))))
  (some true)
def Uo (rv1 : Q0 → Q0 → Option (Bool)) (N : Nat) (a : Q0) (b : Q0) : Option (Bool) :=
 cond (Q8 .neq a.Kind b.Kind)
 (some false)
 (cond (Q3o .neq a.Text b.Text)
 (some false)
 (cond (Q8 .neq ((Q0.rows a.Items).length : Int) ((Q0.rows b.Items).length : Int))
 (some false)
 (cond (Q8 .neq a.N' b.N')
 ((Z6 N a).bind fun v5 =>
 cond v5
 ((Z6 N b).bind fun v8 =>
 cond (!v8)
 (some false)
 (Xx rv1 N a b N 0))
 (some false))
 (Xw rv1 N a b N 0))))
theorem Q3v {rv1 : Q0 → Q0 → Option (Bool)} (hv3 : ∀ {a} {b} {r}, rv1 a b = some r → Zp Tryz.prog G1 114 [.agg (Q0.cells a), .agg (Q0.cells b)] (.bool r)) {N} {a} {b} {r} (h : Uo rv1 N a b = some r) : Zp Tryz.prog G1 114 [.agg (Q0.cells a), .agg (Q0.cells b)] (.bool r) := by
 refine Q4 Qvo ?_
 unfold Uo at h
 apply iU h <;> intro h
 ·cases h; exact (.p _)
 ·apply iU h <;> intro h
  ·cases h; exact (.p _)
  ·apply iU h <;> intro h
   ·cases h; exact (.p _)
   ·apply iU h <;> intro h
    ·refine cP h Jm (.cons q4 .nil) fun v5 h => ?_
     apply iU h <;> intro h
     ·refine cP h Jm (.cons q4 .nil) fun v8 h => ?_
      apply iU h <;> intro h
      ·cases h; exact (.p _)
      ·refine lpC (τ := Int) (fun s28 => (.any :: .any :: .ptr 0 0 :: .ptr 1 0 :: a16 (a16 (a4 (a2 (.any :: iI ((Q0.rows a.Items).length : Int) :: iI s28 :: a8 (a4 (a2 (.any :: []))))))) : List AV)) (fun _ => (.cells (iI a.Kind :: iW a.N' :: iS a.Text :: .p (.slice 4 (Q0.rows a.Items)) :: []) :: .cells (iI b.Kind :: iW b.N' :: iS b.Text :: .p (.slice 4 (Q0.rows b.Items)) :: []) :: [] : List AObj)) (fun n0 s28 => Xx rv1 N a b n0 s28) (0) h (fun i => i) ⟨(rW <| rE rfl <| rE rfl <| rX <| rX <| rX <| rX <| rV <| rW <| rA <| rE rfl <| rE rfl <| rX <| rV <| rW <| rA <| rN), (hE rfl <| hE rfl <| hN), rfl, rfl, (roE rfl <| roE rfl <| roN)⟩ fun n0 s28 h => ?_
       simp only [Xx] at h
       apply iU h <;> intro h
       ·refine Qw ?_
        refine Q0.xR h fun y30 h => ?_
        refine Q0.xR h fun y32 h => ?_
        refine cD h hv3 (.cons q4 (.cons q4 .nil)) fun v34 h => ?_
        apply iU h <;> intro h
        ·cases h; exact (.p _)
        ·show Exists _
         exact ⟨(n0, (IntKind.wrap .i64 (s28 + 1))), h, Nat.lt_succ_self _, (fun i => i), ⟨(rW <| rE rfl <| rE rfl <| rX <| rX <| rX <| rX <| rV <| rW <| rA <| rE rfl <| rE rfl <| rX <| rV <| rW <| rA <| rN), (hE rfl <| hE rfl <| hN), rfl, rfl, (roE rfl <| roE rfl <| roN)⟩⟩
       ·cases h; exact (.p _)
     ·cases h; exact (.p _)
    ·refine lpC (τ := Int) (fun s54 => (.any :: .any :: .ptr 0 0 :: .ptr 1 0 :: a16 (a16 (a4 (a2 (.any :: iI ((Q0.rows a.Items).length : Int) :: iI s54 :: a8 (a4 (a2 (.any :: []))))))) : List AV)) (fun _ => (.cells (iI a.Kind :: iW a.N' :: iS a.Text :: .p (.slice 4 (Q0.rows a.Items)) :: []) :: .cells (iI b.Kind :: iW b.N' :: iS b.Text :: .p (.slice 4 (Q0.rows b.Items)) :: []) :: [] : List AObj)) (fun n1 s54 => Xw rv1 N a b n1 s54) (0) h (fun i => i) ⟨(rW <| rE rfl <| rE rfl <| rX <| rX <| rX <| rX <| rV <| rW <| rA <| rE rfl <| rE rfl <| rX <| rV <| rW <| rA <| rN), (hE rfl <| hE rfl <| hN), rfl, rfl, (roE rfl <| roE rfl <| roN)⟩ fun n1 s54 h => ?_
     simp only [Xw] at h
     apply iU h <;> intro h
     ·refine Qw ?_
      refine Q0.xR h fun y56 h => ?_
      refine Q0.xR h fun y58 h => ?_
      refine cD h hv3 (.cons q4 (.cons q4 .nil)) fun v60 h => ?_
      apply iU h <;> intro h
      ·cases h; exact (.p _)
      ·show Exists _
       exact ⟨(n1, (IntKind.wrap .i64 (s54 + 1))), h, Nat.lt_succ_self _, (fun i => i), ⟨(rW <| rE rfl <| rE rfl <| rX <| rX <| rX <| rX <| rV <| rW <| rA <| rE rfl <| rE rfl <| rX <| rV <| rW <| rA <| rN), (hE rfl <| hE rfl <| hN), rfl, rfl, (roE rfl <| roE rfl <| roN)⟩⟩
     ·cases h; exact (.p _)
def Wn : Nat → Q0 → Q0 → Option (Bool)
 | 0 => fun _ _ => none
 | N + 1 => Uo (Wn N) N
theorem Q48 {N} {a} {b} {r} (h : Wn N a b = some r) : Zp Tryz.prog G1 114 [.agg (Q0.cells a), .agg (Q0.cells b)] (.bool r) := by
 induction N generalizing a b r with
 | zero => simp [Wn] at h
 | succ N ih => exact Q3v (fun h => ih h) h
def Wi (N : Nat) (k0 : Int → Option (Int)) (v : Q0) (i56 : Int) : Nat → Int → Option (Int)
 | 0, _ => none
 | n + 1, k75 =>
  cond (Q8 .lss k75 i56)
  ((idx v.Items i56).bind fun y77 =>
  (idx v.Items k75).bind fun y79 =>
  (Wn N y77 y79).bind fun v81 =>
  cond v81
  (some 16)
  (Wi N k0 v i56 n (IntKind.wrap .i64 (k75 + 2))))
  (k0 (IntKind.wrap .i64 (i56 + 2)))
def Yv (N : Nat) (v : Q0) : Nat → Int → Option (Int)
 | 0, _ => none
 | n + 1, i56 =>
  cond (Q8 .lss i56 ((Q0.rows v.Items).length : Int))
  (Wi N (Yv N v n) v i56 N 0)
  (some 0)
def U8 (N : Nat) (v : Q0) : Option (Int) :=
 cond (Q8 .neq v.Kind 23)
 (some 0)
 (Yv N v N 2)
theorem Q4l {N} {v} {r} (h : U8 N v = some r) : Zp Tryz.prog G1 91 [.agg (Q0.cells v)] (.int .i64 r) := by
 refine Q4 k91 ?_
 unfold U8 at h
 apply iU h <;> intro h
 ·cases h; exact (.p _)
 ·refine lpC (τ := Int) (fun i56 => (.any :: .ptr 0 0 :: .any :: iI i56 :: a16 (a8 (a2 (.any :: []))) : List AV)) (fun _ => (.cells (iI v.Kind :: iW v.N' :: iS v.Text :: .p (.slice 4 (Q0.rows v.Items)) :: []) :: [] : List AObj)) (fun n0 i56 => Yv N v n0 i56) (2) h (fun i => i) ⟨(rA <| rE rfl <| rA <| rE rfl <| rX <| rX <| rX <| rW <| rA <| rN), (hE rfl <| hN), rfl, rfl, (roE rfl <| roN)⟩ fun n0 i56 h => ?_
  simp only [Yv] at h
  apply iU h <;> intro h
  ·refine lpC (τ := Int) (fun k75 => (.any :: .ptr 0 0 :: .any :: iI i56 :: iI k75 :: a16 (a8 (a2 ([]))) : List AV)) (fun _ => (.cells (iI v.Kind :: iW v.N' :: iS v.Text :: .p (.slice 4 (Q0.rows v.Items)) :: []) :: [] : List AObj)) (fun n1 k75 => Wi N (Yv N v n0) v i56 n1 k75) (0) h (fun i => i) ⟨(rA <| rE rfl <| rA <| rE rfl <| rE rfl <| rX <| rX <| rX <| rW <| rN), (hE rfl <| hN), rfl, rfl, (roE rfl <| roN)⟩ fun n1 k75 h => ?_
   simp only [Wi] at h
   apply iU h <;> intro h
   ·refine Qw ?_
    refine Q0.xR h fun y77 h => ?_
    refine Q0.xR h fun y79 h => ?_
    refine cD h Q48 (.cons q4 (.cons q4 .nil)) fun v81 h => ?_
    apply iU h <;> intro h
    ·cases h; exact (.p _)
    ·show Exists _
     exact ⟨(n1, (IntKind.wrap .i64 (k75 + 2))), h, Nat.lt_succ_self _, (fun i => i), ⟨(rA <| rE rfl <| rA <| rE rfl <| rE rfl <| rX <| rX <| rX <| rW <| rN), (hE rfl <| hN), rfl, rfl, (roE rfl <| roN)⟩⟩
   ·show Exists _
    exact ⟨(n0, (IntKind.wrap .i64 (i56 + 2))), h, Nat.lt_succ_self _, (fun i => i), ⟨(rA <| rE rfl <| rA <| rE rfl <| rX <| rX <| rX <| rW <| rA <| rN), (hE rfl <| hN), rfl, rfl, (roE rfl <| roN)⟩⟩
  ·cases h; exact (.p _)
def Yb (rw1 : Q0 → Int → Option (Int)) (N : Nat) (v : Q0) (most : Int) : Nat → Int → Option (Int)
 | 0, _ => none
 | n + 1, s34 =>
  cond (Q8 .lss s34 ((Q0.rows v.Items).length : Int))
  ((idx v.Items s34).bind fun y36 =>
  cond (Q8 .eql v.Kind 24)
  (cond (Q8 .neq (IntKind.wrap .u64 y36.Kind) v.N')
  (some 8)
  ((rw1 y36 (IntKind.wrap .i64 (most - 1))).bind fun v40 =>
  cond (Q8 .neq v40 0)
  (some v40)
  (Yb rw1 N v most n (IntKind.wrap .i64 (s34 + 1)))))
  ((rw1 y36 (IntKind.wrap .i64 (most - 1))).bind fun v43 =>
  cond (Q8 .neq v43 0)
  (some v43)
  (Yb rw1 N v most n (IntKind.wrap .i64 (s34 + 1)))))
  ((U8 N v).bind fun v46 =>
  some v46)
def U0 (rw1 : Q0 → Int → Option (Int)) (N : Nat) (v : Q0) (most : Int) : Option (Int) :=
 cond (Q8 .lss v.Kind 1)
 (some 8)
 (cond (Q8 .gtr v.Kind 25)
 (some 8)
 (cond (Q8 .leq v.Kind 21)
 ((V8 N v).bind fun v4 =>
 some v4)
 (cond (Q8 .eql most 0)
 (some 14)
 ((Vo N v).bind fun v7 =>
 cond (!v7)
 (some 2)
 (cond (Q8 .gtr ((Q0.rows v.Items).length : Int) 1000)
 (some 4)
 (Yb rw1 N v most N 0))))))
theorem Q2g {rw1 : Q0 → Int → Option (Int)} (hw3 : ∀ {v} {most} {r}, rw1 v most = some r → Qhp Tryz.prog G1 88 [.agg (Q0.cells v), .int .i64 most] (.int .i64 r)) {N} {v} {most} {r} (h : U0 rw1 N v most = some r) : Qhp Tryz.prog G1 88 [.agg (Q0.cells v), .int .i64 most] (.int .i64 r) := by
 refine Qhs k88 ?_
 unfold U0 at h
 apply iU h <;> intro h
 ·obtain rfl := Ql h; exact ⟨_, rfl, (.p _)⟩
 ·apply iU h <;> intro h
  ·obtain rfl := Ql h; exact ⟨_, rfl, (.p _)⟩
  ·apply iU h <;> intro h
   ·refine cP h Jf (.cons q4 .nil) fun v4 h => ?_
    obtain rfl := Ql h; exact ⟨_, rfl, (.p _)⟩
   ·apply iU h <;> intro h
    ·obtain rfl := Ql h; exact ⟨_, rfl, (.p _)⟩
    ·refine cP h Q3l (.cons q4 .nil) fun v7 h => ?_
     apply iU h <;> intro h
     ·obtain rfl := Ql h; exact ⟨_, rfl, (.p _)⟩
     ·apply iU h <;> intro h
      ·obtain rfl := Ql h; exact ⟨_, rfl, (.p _)⟩
      ·refine lpC (τ := Int) (fun s34 => (.any :: iI most :: .ptr 0 0 :: .ptr 1 0 :: a16 (a16 (.any :: .p (.slice 4 (Q0.rows v.Items)) :: iI ((Q0.rows v.Items).length : Int) :: iI s34 :: a16 (a8 (.any :: [])))) : List AV)) (fun _ => (.cells (.func (.func 88) [] [.ptr 0 0] :: []) :: .cells (iI v.Kind :: iW v.N' :: iS v.Text :: .p (.slice 4 (Q0.rows v.Items)) :: []) :: [] : List AObj)) (fun n0 s34 => Yb rw1 N v most n0 s34) (0) h (fun i => i) ⟨(rA <| rE rfl <| rE rfl <| rE rfl <| rX <| rX <| rX <| rX <| rA <| rE rfl <| rE rfl <| rE rfl <| rX <| rX <| rX <| rA <| rN), (hE rfl <| hE rfl <| hN), rfl, rfl, (roE rfl <| roE rfl <| roN)⟩ fun n0 s34 h => ?_
       simp only [Yb] at h
       apply iU h <;> intro h
       ·refine Q0.xR h fun y36 h => ?_
        apply iU h <;> intro h
        ·apply iU h <;> intro h
         ·obtain rfl := Ql h; exact ⟨_, rfl, (.p _)⟩
         ·obtain ⟨v40, hv41, h⟩ := Q5w h
          refine Q7v (hw3 hv41) (.cons q4 p1) rfl rfl ?_
          apply iU h <;> intro h
          ·obtain rfl := Ql h; exact ⟨_, rfl, (.p _)⟩
          ·show Exists _
           exact ⟨(n0, (IntKind.wrap .i64 (s34 + 1))), h, Nat.lt_succ_self _, (fun i => i), ⟨(rA <| rE rfl <| rE rfl <| rE rfl <| rX <| rX <| rX <| rX <| rA <| rE rfl <| rE rfl <| rE rfl <| rX <| rX <| rX <| rA <| rN), (hE rfl <| hE rfl <| hN), rfl, rfl, (roE rfl <| roE rfl <| roN)⟩⟩
        ·obtain ⟨v43, hv44, h⟩ := Q5w h
         refine Q7v (hw3 hv44) (.cons q4 p1) rfl rfl ?_
         apply iU h <;> intro h
         ·obtain rfl := Ql h; exact ⟨_, rfl, (.p _)⟩
         ·show Exists _
          exact ⟨(n0, (IntKind.wrap .i64 (s34 + 1))), h, Nat.lt_succ_self _, (fun i => i), ⟨(rA <| rE rfl <| rE rfl <| rE rfl <| rX <| rX <| rX <| rX <| rA <| rE rfl <| rE rfl <| rE rfl <| rX <| rX <| rX <| rA <| rN), (hE rfl <| hE rfl <| hN), rfl, rfl, (roE rfl <| roE rfl <| roN)⟩⟩
       ·refine cP h Q4l (.cons q4 .nil) fun v46 h => ?_
        obtain rfl := Ql h; exact ⟨_, rfl, (.p _)⟩
def Xl : Nat → Q0 → Int → Option (Int)
 | 0 => fun _ _ => none
 | N + 1 => U0 (Xl N) N
theorem Q2m {N} {v} {most} {r} (h : Xl N v most = some r) : Qhp Tryz.prog G1 88 [.agg (Q0.cells v), .int .i64 most] (.int .i64 r) := by
 induction N generalizing v most r with
 | zero => simp [Xl] at h
 | succ N ih => exact Q2g (fun h => ih h) h
def Wv (_N : Nat) (most : Int) : Option (Bool) :=
 cond (Q8 .geq most 0)
 (some (Q8 .leq most 32))
 (some false)
theorem Q1p {N} {most} {r} (h : Wv N most = some r) : Zp Tryz.prog G1 87 [.int .i64 most] (.bool r) := by
 refine Q4 k87 ?_
 unfold Wv at h
 apply iU h <;> intro h
 ·cases h; exact (.p _)
 ·cases h; exact (.p _)
def Vw (N : Nat) (v : Q0) (most : Int) : Option (Int) :=
 (Wv N most).bind fun v1 =>
 cond (!v1)
 (some 2)
 ((Xl N v most).bind fun v4 =>
 some v4)
theorem Q46 {N} {v} {most} {r} (h : Vw N v most = some r) : Zp Tryz.prog G1 61 [.agg (Q0.cells v), .int .i64 most] (.int .i64 r) := by
 refine Q4 k61 ?_
 unfold Vw at h
 refine cP h Q1p p1 fun v1 h => ?_
 apply iU h <;> intro h
 ·cases h; exact (.p _)
 ·obtain ⟨v4, hv5, h⟩ := Q5w h
  refine Q7v (Q2m hv5) (.cons q4 p1) rfl rfl ?_
  cases h; exact (.p _)
def Uk (N : Nat) (c : Qh) (v : Q0) : Option (Bool) :=
 cond (Q8 .eql c.Code 65)
 (some (Q8 .eql v.N' 1))
 (cond c.Sized
 (cond (Q8 .eql c.Width 4)
 (some true)
 (some (Q8 .leq (v.Text.length : Int) 255)))
 (cond (Q8 .eql c.Width 0)
 (some (Q8 .eql v.N' 0))
 (cond (Q8 .eql c.Width 1)
 ((Vy N c.Kind).bind fun v6 =>
 (Wc N v.N' 8 v6.2).bind fun v8 =>
 some v8)
 (some true))))
theorem Q5y {N} {c} {v} {r} (h : Uk N c v = some r) : Zp Tryz.prog G1 155 [.agg (Qh.cells c), .agg (Q0.cells v)] (.bool r) := by
 refine Q4 Quy ?_
 unfold Uk at h
 apply iU h <;> intro h
 ·cases h; exact (.p _)
 ·apply iU h <;> intro h
  ·apply iU h <;> intro h
   ·cases h; exact (.p _)
   ·cases h; exact (.p _)
  ·apply iU h <;> intro h
   ·cases h; exact (.p _)
   ·apply iU h <;> intro h
    ·refine cP h Q14 p1 fun v6 h => ?_
     refine cP h Ju p3 fun v8 h => ?_
     cases h; exact (.p _)
    ·cases h; exact (.p _)
def Vz (N : Nat) (code : Int) (v : Q0) : Option (Bool) :=
 (Yw N code).bind fun v1 =>
 cond v1.2
 (cond (Q8 .eql v1.1.Kind v.Kind)
 ((V8 N v).bind fun v5 =>
 cond (Q8 .eql v5 0)
 ((Uk N v1.1 v).bind fun v8 =>
 some v8)
 (some false))
 (some false))
 (some false)
theorem Q0u {N} {code} {v} {r} (h : Vz N code v = some r) : Zp Tryz.prog G1 134 [.int .i64 code, .agg (Q0.cells v)] (.bool r) := by
 refine Q4 Qw1 ?_
 unfold Vz at h
 refine cP h U4 p1 fun v1 h => ?_
 apply iU h <;> intro h
 ·apply iU h <;> intro h
  ·refine cP h Jf (.cons q4 .nil) fun v5 h => ?_
   apply iU h <;> intro h
   ·refine cP h Q5y (.cons (Frz.agg' p5) (.cons q4 .nil)) fun v8 h => ?_
    cases h; exact (.p _)
   ·cases h; exact (.p _)
  ·cases h; exact (.p _)
 ·cases h; exact (.p _)
def Zm (N : Nat) (f : Q1) (code : Int) : Option (Bool) :=
 (Yw N code).bind fun v1 =>
 cond (!v1.1.Items)
 ((Vz N code f.v).bind fun v4 =>
 some v4)
 (cond (Q8 .eql v1.1.Kind 25)
 (some true)
 (cond (!v1.1.Sized)
 (some (Q8 .eql ((Q1.rows f.kids).length : Int) 0))
 (cond (Q8 .eql v1.1.Width 4)
 (some true)
 (cond (Q8 .leq (IntKind.wrap .i64 (f.inner + 1)) 255)
 (some (Q8 .leq ((Q1.rows f.kids).length : Int) 255))
 (some false)))))
theorem Q1z {N} {f} {code} {r} (h : Zm N f code = some r) : Zp Tryz.prog G1 118 [.agg (Q1.cells f), .int .i64 code] (.bool r) := by
 refine Q4 Qvq ?_
 unfold Zm at h
 refine cP h U4 p1 fun v1 h => ?_
 apply iU h <;> intro h
 ·refine cP h Q0u (.cons (.p _) (.cons q4 .nil)) fun v4 h => ?_
  cases h; exact (.p _)
 ·apply iU h <;> intro h
  ·cases h; exact (.p _)
  ·apply iU h <;> intro h
   ·cases h; exact (.p _)
   ·apply iU h <;> intro h
    ·cases h; exact (.p _)
    ·apply iU h <;> intro h
     ·cases h; exact (.p _)
     ·cases h; exact (.p _)
def X7 (N : Nat) (k0 : Int → Option (Int)) (l : List Q1) (s54 : Int) (y56 : Int) : Nat → Bool → Int → Option (Int)
 | 0, _, _ => none
 | n + 1, all71, s72 =>
  cond (Q8 .lss s72 ((Q1.rows l).length : Int))
  ((idx l s72).bind fun y74 =>
  cond all71
  ((Zm N y74 y56).bind fun v77 =>
  X7 N k0 l s54 y56 n v77 (IntKind.wrap .i64 (s72 + 1)))
  (X7 N k0 l s54 y56 n false (IntKind.wrap .i64 (s72 + 1))))
  (cond all71
  (some y56)
  (k0 (IntKind.wrap .i64 (s54 + 1))))
def Yd (N : Nat) (l : List Q1) (v1 : List Int) : Nat → Int → Option (Int)
 | 0, _ => none
 | n + 1, s54 =>
  cond (Q8 .lss s54 ((U2 (cI .i64) v1).length : Int))
  ((idx v1 s54).bind fun y56 =>
  X7 N (Yd N l v1 n) l s54 y56 N true 0)
  (some 0)
def Wl (N : Nat) (kind : Int) (l : List Q1) : Option (Int) :=
 (Q01 N kind).bind fun v1 =>
 Yd N l v1 N 0
theorem Gi {N} {kind} {l} {r} (h : Wl N kind l = some r) : Zp Tryz.prog G1 96 [.int .i64 kind, .slice 7 (Q1.rows l)] (.int .i64 r) := by
 refine Q4 k96 ?_
 unfold Wl at h
 refine cP h Q5d p1 fun v1 h => ?_
 refine lpC (τ := Int) (fun s54 => (.any :: .p (.slice 7 (Q1.rows l)) :: a8 (.any :: .p (.slice 1 (U2 (cI .i64) v1)) :: .p (.int .i64 ((U2 (cI .i64) v1).length : Int)) :: iI s54 :: a16 (a2 (.any :: []))) : List AV)) (fun _ => ([] : List AObj)) (fun n0 s54 => Yd N l v1 n0 s54) (0) h (fun i => i) ⟨(rA <| rE rfl <| rX <| rA <| rE rfl <| rE rfl <| rE rfl <| rX <| rX <| rW <| rA <| rN), (hN), rfl, rfl, (roN)⟩ fun n0 s54 h => ?_
 simp only [Yd] at h
 apply iU h <;> intro h
 ·refine xR h fun y56 h => ?_
  refine lpC (τ := Bool × Int) (fun ⟨all71, s72⟩ => (.any :: .p (.slice 7 (Q1.rows l)) :: a4 (iI y56 :: .p (.bool all71) :: a2 (.any :: .p (.slice 1 (U2 (cI .i64) v1)) :: .p (.int .i64 ((U2 (cI .i64) v1).length : Int)) :: iI s54 :: a2 (.any :: .p (.slice 7 (Q1.rows l)) :: iI ((Q1.rows l).length : Int) :: iI s72 :: a8 (a4 (.any :: []))))) : List AV)) (fun ⟨_, _⟩ => ([] : List AObj)) (fun n1 ⟨all71, s72⟩ => X7 N (Yd N l v1 n0) l s54 y56 n1 all71 s72) (true, 0) h (fun i => i) ⟨(rA <| rE rfl <| rV <| rE rfl <| rE rfl <| rW <| rA <| rE rfl <| rE rfl <| rE rfl <| rW <| rA <| rE rfl <| rE rfl <| rE rfl <| rX <| rV <| rA <| rN), (hN), rfl, rfl, (roN)⟩ fun n1 ⟨all71, s72⟩ h => ?_
  simp only [X7] at h
  apply iU h <;> intro h
  ·refine Q1.xR h fun y74 h => ?_
   apply iU h <;> intro h
   ·refine cP h Q1z (.cons (Frz.agg' (.cons (.p _) (.cons (.p _) p5))) p1) fun v77 h => ?_
    show Exists _
    exact ⟨(n1, v77, (IntKind.wrap .i64 (s72 + 1))), h, Nat.lt_succ_self _, (fun i => i), ⟨(rA <| rE rfl <| rV <| rE rfl <| rE rfl <| rW <| rA <| rE rfl <| rE rfl <| rE rfl <| rW <| rA <| rE rfl <| rE rfl <| rE rfl <| rX <| rV <| rA <| rN), (hN), rfl, rfl, (roN)⟩⟩
   ·show Exists _
    exact ⟨(n1, false, (IntKind.wrap .i64 (s72 + 1))), h, Nat.lt_succ_self _, (fun i => i), ⟨(rA <| rE rfl <| rV <| rE rfl <| rE rfl <| rW <| rA <| rE rfl <| rE rfl <| rE rfl <| rW <| rA <| rE rfl <| rE rfl <| rE rfl <| rX <| rV <| rA <| rN), (hN), rfl, rfl, (roN)⟩⟩
  ·apply iU h <;> intro h
   ·cases h; exact (.p _)
   ·show Exists _
    exact ⟨(n0, (IntKind.wrap .i64 (s54 + 1))), h, Nat.lt_succ_self _, (fun i => i), ⟨(rA <| rE rfl <| rX <| rA <| rE rfl <| rE rfl <| rE rfl <| rX <| rX <| rW <| rA <| rN), (hN), rfl, rfl, (roN)⟩⟩
 ·cases h; exact (.p _)
def Xo (N : Nat) (f : Q1) : Option (Int) :=
 (Wl N f.v.Kind [f]).bind fun v1 =>
 some v1
theorem J2 {N} {f} {r} (h : Xo N f = some r) : Zp Tryz.prog G1 75 [.agg (Q1.cells f)] (.int .i64 r) := by
 refine Q4 k75 ?_
 unfold Xo at h
 refine cK h Gi (.cons (.p _) (.cons (Q1.frz_own (l := [f]) rfl trivial (by simp)) .nil)) fun v1 h => ?_
 cases h; exact (.p _)
def Xe (_N : Nat) (b : Qq) (s_1 : List UInt8) : Option ((Unit) × Qq) :=
 cond (Nat.beq s_1.length 0)
 (some ((), b))
 (cond (Nat.ble ((b.b.length + s_1.length + 4096) * 1) 17592186044416) (some ((), (⟨(b.b ++ (s_1.map fun b => (b.toNat : Int)))⟩ : Qq))) none)
theorem Us {N} {b} {s_1} {r} (h : Xe N b s_1 = some r) : GC Tryz.prog G1 115 (.ptr 0 0 :: .p (.str s_1) :: []) (.cells (.slice 1 1 0 b.b.length :: []) :: .cells (Xq (cI .u8) b.b) :: []) (.tuple []) (.cells (.slice 1 2 0 r.2.b.length :: []) :: .dead :: .cells (Xq (cI .u8) r.2.b) :: []) := by
 refine Q37 Qvj (Nat.le_of_ble_eq_true rfl) ?_
 unfold Xe at h
 refine Qrx (b := s_1) ?_
 apply iU h <;> intro h
 ·obtain rfl := Ql h
  show Exists _
  exact ⟨(rho [0, 1, 1]), ⟨(rE rfl <| rN), (hE rfl <| hD <| hO rfl <| hN), rfl, rfl, (roE rfl <| roE rfl <| roE (Qb _ _ _) <| roN)⟩⟩
 ·obtain ⟨hk2, h⟩ := Qgg h
  refine Q72 (Gx (c := (cI .u8)) (e := 1) (l := b.b) (fun _ => rfl) (by simp) hk2) ?_
  refine Q2n (c := (cI .u8)) (l := b.b) (s_1.map fun b => (b.toNat : Int)) rfl ?_
  obtain rfl := Ql h
  show Exists _
  exact ⟨(rho [0, 1, 2]), ⟨(rE rfl <| rN), (hC rfl (rL (by simp) rfl <| rN) <| hD <| hO rfl <| hN), rfl, rfl, (roE rfl <| roE rfl <| roE (Qb _ _ _) <| roN)⟩⟩
def Vk (N : Nat) (n_0 : Int) (size : Int) : Nat → Int → (List Int) → Option (List UInt8)
 | 0, _, _ => none
 | n + 1, s14, l15 =>
  cond (Q8 .lss s14 (ifB (decide (16 < size)) 16 size))
  (cond (Q8 .lss s14 8)
  (cond (decide (0 ≤ (IntKind.wrap .u64 (IntKind.wrap .i64 (8 * s14))))) ((idx (l15 : List Int) (IntKind.wrap .i64 ((IntKind.wrap .i64 ((ifB (decide (16 < size)) 16 size) - 1)) - s14))).bind fun y19 =>
  Vk N n_0 size n (IntKind.wrap .i64 (s14 + 1)) ((l15 : List Int).set (Int.toNat (IntKind.wrap .i64 ((IntKind.wrap .i64 ((ifB (decide (16 < size)) 16 size) - 1)) - s14))) (IntKind.wrap .u8 (Q1d .u64 n_0 (IntKind.wrap .u64 (IntKind.wrap .i64 (8 * s14))))))) none)
  (Vk N n_0 size n (IntKind.wrap .i64 (s14 + 1)) l15))
  (some (l15.map fun n => UInt8.ofNat n.toNat))
def Ur (N : Nat) (n_0 : Int) (size : Int) : Option (List UInt8) :=
 cond (Q8 .leq size 0)
 (some [])
 (cond (decide (0 ≤ (ifB (decide (16 < size)) 16 size)) && decide ((ifB (decide (16 < size)) 16 size) ≤ (ifB (decide (16 < size)) 16 size)) && decide ((ifB (decide (16 < size)) 16 size) * 1 ≤ 1099511627776)) (Vk N n_0 size N 0 (List.replicate ((ifB (decide (16 < size)) 16 size) : Int).toNat (0 : Int))) none)
theorem Q0k {N} {n_0} {size} {r} (h : Ur N n_0 size = some r) : Zp Tryz.prog G1 102 [.int .u64 n_0, .int .i64 size] (.str r) := by
 refine Q4 Qvr ?_
 unfold Ur at h
 apply iU h <;> intro h
 ·cases h; exact (.p _)
 ·refine kU h fun h => ?_
  refine Qtc (c := (cI .u8)) (0 : Int) rfl ?_
  refine lpC (τ := Int × (List Int)) (fun ⟨s14, l15⟩ => (iW n_0 :: .p (.int .i64 (ifB (decide (16 < size)) 16 size)) :: a2 (.any :: .slice 1 1 0 l15.length :: a4 (a2 (.any :: .p (.int .i64 (ifB (decide (16 < size)) 16 size)) :: iI s14 :: a16 (a2 (.any :: []))))) : List AV)) (fun ⟨_, l15⟩ => (.dead :: .cells (Xq (cI .u8) l15) :: [] : List AObj)) (fun n0 ⟨s14, l15⟩ => Vk N n_0 size n0 s14 l15) (0, (List.replicate ((ifB (decide (16 < size)) 16 size) : Int).toNat (0 : Int))) h (rho [0, 0]) ⟨(rE rfl <| rE rfl <| rW <| rA <| rL (by simp) rfl <| rV <| rW <| rA <| rE rfl <| rE rfl <| rX <| rX <| rW <| rA <| rN), (hD <| hO rfl <| hN), rfl, rfl, (roE rfl <| roE (Qb _ _ _) <| roN)⟩ fun n0 ⟨s14, l15⟩ h => ?_
  simp only [Vk] at h
  apply iU h <;> intro h
  ·apply iU h <;> intro h
   ·refine kU h fun h => ?_
    obtain ⟨y19, hy20, h⟩ := Q5w h
    refine Q72 (Qba hy20 (by simp)) ?_
    refine Q72 (Qde (c := (cI .u8)) (e := 1) (fun _ => rfl) hy20 (off := 0) (by omega) rfl (by decide)) ?_
    refine Qd4 (c := (cI .u8)) (e := 1) (fun _ => rfl) hy20 (IntKind.wrap .u8 (Q1d .u64 n_0 (IntKind.wrap .u64 (IntKind.wrap .i64 (8 * s14))))) (off := 0) (by first | omega | (simp only [Jw, orI, Qsj, Qan, Ut, Q1d]; omega)) rfl (by simp) ?_
    show Exists _
    exact ⟨(n0, (IntKind.wrap .i64 (s14 + 1)), ((l15 : List Int).set (Int.toNat (IntKind.wrap .i64 ((IntKind.wrap .i64 ((ifB (decide (16 < size)) 16 size) - 1)) - s14))) (IntKind.wrap .u8 (Q1d .u64 n_0 (IntKind.wrap .u64 (IntKind.wrap .i64 (8 * s14))))))), h, Nat.lt_succ_self _, (fun i => i), ⟨(rE rfl <| rE rfl <| rW <| rA <| rL (by simp) rfl <| rV <| rW <| rA <| rE rfl <| rE rfl <| rX <| rX <| rW <| rA <| rN), (hD <| hO rfl <| hN), rfl, rfl, (roE rfl <| roE (Qb _ _ _) <| roN)⟩⟩
   ·show Exists _
    exact ⟨(n0, (IntKind.wrap .i64 (s14 + 1)), l15), h, Nat.lt_succ_self _, (fun i => i), ⟨(rE rfl <| rE rfl <| rW <| rA <| rE rfl <| rV <| rW <| rA <| rE rfl <| rE rfl <| rX <| rX <| rW <| rA <| rN), (hD <| hO rfl <| hN), rfl, rfl, (roE rfl <| roE (Qb _ _ _) <| roN)⟩⟩
  ·refine Qoj (l := l15) (by simp) ?_
   cases h; exact (.p _)
def Qz (N : Nat) (b : Qq) (n_1 : Int) (width : Int) : Option ((Unit) × Qq) :=
 (Ur N (IntKind.wrap .u64 n_1) width).bind fun v1 =>
 (Xe N b v1).bind fun v3 =>
 some ((), v3.2)
theorem Yf {N} {b} {n_1} {width} {r} (h : Qz N b n_1 width = some r) : GC Tryz.prog G1 92 (.ptr 0 0 :: .p (.int .i64 n_1) :: .p (.int .i64 width) :: []) (.cells (.slice 1 1 0 b.b.length :: []) :: .cells (Xq (cI .u8) b.b) :: []) (.tuple []) (.cells (.slice 1 2 0 r.2.b.length :: []) :: .dead :: .cells (Xq (cI .u8) r.2.b) :: []) := by
 refine Q37 k92 (Nat.le_of_ble_eq_true rfl) ?_
 unfold Qz at h
 refine cP h Q0k p2 fun v1 h => ?_
 refine cG h Us fun v3 h => ?_
 refine ⟨rho [0, 1], (.cells (.slice 1 2 0 v3.2.b.length :: []) :: .dead :: .cells (Xq (cI .u8) v3.2.b) :: []), .tuple [], ⟨(rE rfl <| rE rfl <| rN), (hE rfl <| hO rfl <| hN), rfl, rfl, (roE rfl <| roE (Qb _ _ _) <| roN), rfl, (fR 0 rfl rfl rfl rfl <| fD <| fO 2 rfl rfl rfl <| fN), rfl⟩, ?_⟩
 obtain rfl := Ql h
 show Exists _
 exact ⟨(rho [0, 1, 2]), ⟨(rE rfl <| rN), (hE rfl <| hD <| hO rfl <| hN), rfl, rfl, (roE rfl <| roE rfl <| roE (Qb _ _ _) <| roN)⟩⟩
def Zl (N : Nat) (d : Z3) : Option (List UInt8) :=
 (Ur N d.v.N' d.c.Width).bind fun v1 =>
 some v1
theorem W1 {N} {d} {r} (h : Zl N d = some r) : Zp Tryz.prog G1 137 [.agg (Z3.cells d)] (.str r) := by
 refine Q4 Qwc ?_
 unfold Zl at h
 refine cP h Q0k p2 fun v1 h => ?_
 cases h; exact (.p _)
def Wa (N : Nat) (d : Z3) : Option (List UInt8) :=
 (Ur N (IntKind.wrap .u64 (d.v.Text.length : Int)) d.c.Width).bind fun v1 =>
 cond (Nat.ble (v1.length + d.v.Text.length) 4611686018427387904) (some (v1 ++ d.v.Text)) none
theorem Q0s {N} {d} {r} (h : Wa N d = some r) : Zp Tryz.prog G1 135 [.agg (Z3.cells d)] (.str r) := by
 refine Q4 Quq ?_
 unfold Wa at h
 refine Qw ?_
 refine cD h Q0k p2 fun v1 h => ?_
 refine kU h fun h => ?_
 cases h; exact (.p _)
def Vl (_N : Nat) (d : Z3) : Option (List UInt8) :=
 some []
theorem Q1c {N} {d} {r} (h : Vl N d = some r) : Zp Tryz.prog G1 136 [.agg (Z3.cells d)] (.str r) := by
 refine Q4 Qv5 ?_
 unfold Vl at h
 cases h; exact (.p _)
def U5 (_N : Nat) (d : Z3) : Option (List UInt8) :=
 some d.v.Text
theorem Q0z {N} {d} {r} (h : U5 N d = some r) : Zp Tryz.prog G1 138 [.agg (Z3.cells d)] (.str r) := by
 refine Q4 Qwd ?_
 unfold U5 at h
 cases h; exact (.p _)
def Jd (N : Nat) (code : Int) (v : Q0) : Option ((List UInt8) × Int) :=
 (V8 N v).bind fun v1 =>
 cond (Q8 .neq v1 0)
 (some ([], v1))
 ((Vz N code v).bind fun v4 =>
 cond (!v4)
 (some ([], 2))
 ((Yw N code).bind fun v7 =>
 cond v7.1.Sized
 ((Wa N (⟨v7.1, v⟩ : Z3)).bind fun v10 =>
 some (v10, 0))
 (cond ((v7.1.Width : Int) == 0)
 ((Vl N (⟨v7.1, v⟩ : Z3)).bind fun v13 =>
 some (v13, 0))
 (cond ((v7.1.Width : Int) == 1)
 ((Zl N (⟨v7.1, v⟩ : Z3)).bind fun v16 =>
 some (v16, 0))
 (cond ((v7.1.Width : Int) == 2)
 ((Zl N (⟨v7.1, v⟩ : Z3)).bind fun v19 =>
 some (v19, 0))
 (cond ((v7.1.Width : Int) == 4)
 ((Zl N (⟨v7.1, v⟩ : Z3)).bind fun v22 =>
 some (v22, 0))
 (cond ((v7.1.Width : Int) == 8)
 ((Zl N (⟨v7.1, v⟩ : Z3)).bind fun v25 =>
 some (v25, 0))
 (cond ((v7.1.Width : Int) == 16)
 ((U5 N (⟨v7.1, v⟩ : Z3)).bind fun v28 =>
 some (v28, 0))
 (none)))))))))
theorem Q6u {N} {code} {v} {r} (h : Jd N code v = some r) : Zp Tryz.prog G1 116 [.int .i64 code, .agg (Q0.cells v)] (.tuple [.str r.1, .int .i64 r.2]) := by
 refine Q4 Qvz ?_
 unfold Jd at h
 refine cP h Jf (.cons q4 .nil) fun v1 h => ?_
 apply iU h <;> intro h
 ·obtain rfl := Ql h; exact u2
 ·refine cP h Q0u (.cons (.p _) (.cons q4 .nil)) fun v4 h => ?_
  apply iU h <;> intro h
  ·obtain rfl := Ql h; exact u2
  ·refine cP h U4 p1 fun v7 h => ?_
   apply iU h <;> intro h
   ·refine cP h Q0s (.cons (Frz.agg' (.cons (.p _) (.cons (.p _) (.cons (.p _) (.cons (.p _) p5))))) .nil) fun v10 h => ?_
    obtain rfl := Ql h; exact u2
   ·apply iU h <;> intro h
    ·refine cP h Q1c (.cons (Frz.agg' (.cons (.p _) (.cons (.p _) (.cons (.p _) (.cons (.p _) p5))))) .nil) fun v13 h => ?_
     obtain rfl := Ql h; exact u2
    ·apply iU h <;> intro h
     ·refine cP h W1 (.cons (Frz.agg' (.cons (.p _) (.cons (.p _) (.cons (.p _) (.cons (.p _) p5))))) .nil) fun v16 h => ?_
      obtain rfl := Ql h; exact u2
     ·apply iU h <;> intro h
      ·refine cP h W1 (.cons (Frz.agg' (.cons (.p _) (.cons (.p _) (.cons (.p _) (.cons (.p _) p5))))) .nil) fun v19 h => ?_
       obtain rfl := Ql h; exact u2
      ·apply iU h <;> intro h
       ·refine cP h W1 (.cons (Frz.agg' (.cons (.p _) (.cons (.p _) (.cons (.p _) (.cons (.p _) p5))))) .nil) fun v22 h => ?_
        obtain rfl := Ql h; exact u2
       ·apply iU h <;> intro h
        ·refine cP h W1 (.cons (Frz.agg' (.cons (.p _) (.cons (.p _) (.cons (.p _) (.cons (.p _) p5))))) .nil) fun v25 h => ?_
         obtain rfl := Ql h; exact u2
        ·apply iU h <;> intro h
         ·refine cP h Q0z (.cons (Frz.agg' (.cons (.p _) (.cons (.p _) (.cons (.p _) (.cons (.p _) p5))))) .nil) fun v28 h => ?_
          obtain rfl := Ql h; exact u2
         ·first | (cases h; done) | (simp [Qpd] at h; done)
def Xk (rx1 : Q2 → Q1 → Option ((Unit) × Q2)) (ry1 : Q2 → Int → Q1 → Option ((Unit) × Q2)) (N : Nat) (w : Q2) (f : Q1) : Option ((Unit) × Q2) :=
 (Xo N f).bind fun v1 =>
 (Qz N w.buffer v1 1).bind fun v3 =>
 (ry1 (⟨v3.2⟩ : Q2) v1 f).bind fun v5 =>
 some ((), v5.2)
theorem Q05 {rx1 : Q2 → Q1 → Option ((Unit) × Q2)} {ry1 : Q2 → Int → Q1 → Option ((Unit) × Q2)} (hx3 : ∀ {w} {f} {r}, rx1 w f = some r → GC Tryz.prog G1 62 (.ptr 0 0 :: .p (.agg (Q1.cells f)) :: []) (.cells (.slice 1 1 0 w.buffer.b.length :: []) :: .cells (Xq (cI .u8) w.buffer.b) :: []) (.tuple []) (.cells (.slice 1 2 0 r.2.buffer.b.length :: []) :: .dead :: .cells (Xq (cI .u8) r.2.buffer.b) :: [])) (hy3 : ∀ {w} {code} {f} {r}, ry1 w code f = some r → GC Tryz.prog G1 93 (.ptr 0 0 :: .p (.int .i64 code) :: .p (.agg (Q1.cells f)) :: []) (.cells (.slice 1 1 0 w.buffer.b.length :: []) :: .cells (Xq (cI .u8) w.buffer.b) :: []) (.tuple []) (.cells (.slice 1 2 0 r.2.buffer.b.length :: []) :: .dead :: .cells (Xq (cI .u8) r.2.buffer.b) :: [])) {N} {w} {f} {r} (h : Xk rx1 ry1 N w f = some r) : GC Tryz.prog G1 62 (.ptr 0 0 :: .p (.agg (Q1.cells f)) :: []) (.cells (.slice 1 1 0 w.buffer.b.length :: []) :: .cells (Xq (cI .u8) w.buffer.b) :: []) (.tuple []) (.cells (.slice 1 2 0 r.2.buffer.b.length :: []) :: .dead :: .cells (Xq (cI .u8) r.2.buffer.b) :: []) := by
 refine Q37 k62 (Nat.le_of_ble_eq_true rfl) ?_
 unfold Xk at h
 refine cP h J2 (.cons (Frz.agg' (.cons (.p _) (.cons (.p _) p5))) .nil) fun v1 h => ?_
 refine cG h Yf fun v3 h => ?_
 refine ⟨rho [0, 1], (.cells (.slice 1 3 0 v3.2.b.length :: []) :: .dead :: .cells (iI f.v.Kind :: iW f.v.N' :: iS f.v.Text :: .p (.slice 4 (Q0.rows f.v.Items)) :: .p (.slice 7 (Q1.rows f.kids)) :: iI f.element :: iI f.inner :: []) :: .cells (Xq (cI .u8) v3.2.b) :: []), .tuple [], ⟨(rE rfl <| rE rfl <| rE rfl <| rN), (hE rfl <| hO rfl <| hN), rfl, rfl, (roE rfl <| roE (Qb _ _ _) <| roN), rfl, (fR 0 rfl rfl rfl rfl <| fD <| fK rfl rfl <| fO 2 rfl rfl rfl <| fN), rfl⟩, ?_⟩
 refine cG h hy3 fun v5 h => ?_
 refine ⟨rho [0, 3], (.cells (.slice 1 4 0 v5.2.buffer.b.length :: []) :: .dead :: .cells (iI f.v.Kind :: iW f.v.N' :: iS f.v.Text :: .p (.slice 4 (Q0.rows f.v.Items)) :: .p (.slice 7 (Q1.rows f.kids)) :: iI f.element :: iI f.inner :: []) :: .dead :: .cells (Xq (cI .u8) v5.2.buffer.b) :: []), .tuple [], ⟨(rE rfl <| rE rfl <| rF (Frz.agg' (.cons (.p _) (.cons (.p _) p5))) <| rN), (hE rfl <| hO rfl <| hN), rfl, rfl, (roE rfl <| roE (Qb _ _ _) <| roN), rfl, (fR 0 rfl rfl rfl rfl <| fD <| fK rfl rfl <| fD <| fO 2 rfl rfl rfl <| fN), rfl⟩, ?_⟩
 obtain rfl := Ql h
 show Exists _
 exact ⟨(rho [0, 1, 4]), ⟨(rE rfl <| rN), (hE rfl <| hD <| hO rfl <| hN), rfl, rfl, (roE rfl <| roE rfl <| roE (Qb _ _ _) <| roN)⟩⟩
def Zx (ry1 : Q2 → Int → Q1 → Option ((Unit) × Q2)) (N : Nat) (f : Q1) : Nat → Int → (List Int) → Option ((Unit) × Q2)
 | 0, _, _ => none
 | n + 1, s28, l29 =>
  cond (Q8 .lss s28 ((Q1.rows f.kids).length : Int))
  ((idx f.kids s28).bind fun y31 =>
  (ry1 (⟨(⟨l29⟩ : Qq)⟩ : Q2) f.element y31).bind fun v33 =>
  Zx ry1 N f n (IntKind.wrap .i64 (s28 + 1)) v33.2.buffer.b)
  (some ((), (⟨(⟨l29⟩ : Qq)⟩ : Q2)))
def Zv (rx1 : Q2 → Q1 → Option ((Unit) × Q2)) (N : Nat) (f : Q1) : Nat → Int → (List Int) → Option ((Unit) × Q2)
 | 0, _, _ => none
 | n + 1, s47, l48 =>
  cond (Q8 .lss s47 ((Q1.rows f.kids).length : Int))
  ((idx f.kids s47).bind fun y50 =>
  (rx1 (⟨(⟨l48⟩ : Qq)⟩ : Q2) y50).bind fun v52 =>
  Zv rx1 N f n (IntKind.wrap .i64 (s47 + 1)) v52.2.buffer.b)
  (some ((), (⟨(⟨l48⟩ : Qq)⟩ : Q2)))
def W0 (ry1 : Q2 → Int → Q1 → Option ((Unit) × Q2)) (N : Nat) (f : Q1) : Nat → Int → (List Int) → Option ((Unit) × Q2)
 | 0, _, _ => none
 | n + 1, s69, l70 =>
  cond (Q8 .lss s69 ((Q1.rows f.kids).length : Int))
  ((idx f.kids s69).bind fun y72 =>
  (ry1 (⟨(⟨l70⟩ : Qq)⟩ : Q2) f.element y72).bind fun v74 =>
  W0 ry1 N f n (IntKind.wrap .i64 (s69 + 1)) v74.2.buffer.b)
  (some ((), (⟨(⟨l70⟩ : Qq)⟩ : Q2)))
def Zw (rx1 : Q2 → Q1 → Option ((Unit) × Q2)) (N : Nat) (f : Q1) : Nat → Int → (List Int) → Option ((Unit) × Q2)
 | 0, _, _ => none
 | n + 1, s88, l89 =>
  cond (Q8 .lss s88 ((Q1.rows f.kids).length : Int))
  ((idx f.kids s88).bind fun y91 =>
  (rx1 (⟨(⟨l89⟩ : Qq)⟩ : Q2) y91).bind fun v93 =>
  Zw rx1 N f n (IntKind.wrap .i64 (s88 + 1)) v93.2.buffer.b)
  (some ((), (⟨(⟨l89⟩ : Qq)⟩ : Q2)))
def Y3 (rx1 : Q2 → Q1 → Option ((Unit) × Q2)) (ry1 : Q2 → Int → Q1 → Option ((Unit) × Q2)) (N : Nat) (w : Q2) (code : Int) (f : Q1) : Option ((Unit) × Q2) :=
 (Yw N code).bind fun v1 =>
 cond (!v1.1.Items)
 ((Jd N code f.v).bind fun v4 =>
 (Xe N w.buffer v4.1).bind fun v6 =>
 some ((), (⟨v6.2⟩ : Q2)))
 (cond v1.1.Sized
 ((Qz N w.buffer (IntKind.wrap .i64 (v1.1.Width + f.inner)) v1.1.Width).bind fun v9 =>
 (Qz N v9.2 ((Q1.rows f.kids).length : Int) v1.1.Width).bind fun v11 =>
 cond (Q8 .eql v1.1.Kind 24)
 ((Qz N v11.2 f.element 1).bind fun v14 =>
 Zx ry1 N f N 0 v14.2.b)
 (Zv rx1 N f N 0 v11.2.b))
 (cond (Q8 .eql v1.1.Kind 24)
 ((Qz N w.buffer f.element 1).bind fun v55 =>
 W0 ry1 N f N 0 v55.2.b)
 (Zw rx1 N f N 0 w.buffer.b)))
theorem Q0n {rx1 : Q2 → Q1 → Option ((Unit) × Q2)} {ry1 : Q2 → Int → Q1 → Option ((Unit) × Q2)} (hx3 : ∀ {w} {f} {r}, rx1 w f = some r → GC Tryz.prog G1 62 (.ptr 0 0 :: .p (.agg (Q1.cells f)) :: []) (.cells (.slice 1 1 0 w.buffer.b.length :: []) :: .cells (Xq (cI .u8) w.buffer.b) :: []) (.tuple []) (.cells (.slice 1 2 0 r.2.buffer.b.length :: []) :: .dead :: .cells (Xq (cI .u8) r.2.buffer.b) :: [])) (hy3 : ∀ {w} {code} {f} {r}, ry1 w code f = some r → GC Tryz.prog G1 93 (.ptr 0 0 :: .p (.int .i64 code) :: .p (.agg (Q1.cells f)) :: []) (.cells (.slice 1 1 0 w.buffer.b.length :: []) :: .cells (Xq (cI .u8) w.buffer.b) :: []) (.tuple []) (.cells (.slice 1 2 0 r.2.buffer.b.length :: []) :: .dead :: .cells (Xq (cI .u8) r.2.buffer.b) :: [])) {N} {w} {code} {f} {r} (h : Y3 rx1 ry1 N w code f = some r) : GC Tryz.prog G1 93 (.ptr 0 0 :: .p (.int .i64 code) :: .p (.agg (Q1.cells f)) :: []) (.cells (.slice 1 1 0 w.buffer.b.length :: []) :: .cells (Xq (cI .u8) w.buffer.b) :: []) (.tuple []) (.cells (.slice 1 2 0 r.2.buffer.b.length :: []) :: .dead :: .cells (Xq (cI .u8) r.2.buffer.b) :: []) := by
 refine Q37 k93 (Nat.le_of_ble_eq_true rfl) ?_
 unfold Y3 at h
 refine cP h U4 p1 fun v1 h => ?_
 apply iU h <;> intro h
 ·refine cP h Q6u (.cons (.p _) (.cons q4 .nil)) fun v4 h => ?_
  refine cG h Us fun v6 h => ?_
  refine ⟨rho [0, 1], (.cells (.slice 1 4 0 v6.2.b.length :: []) :: .dead :: .cells (iI f.v.Kind :: iW f.v.N' :: iS f.v.Text :: .p (.slice 4 (Q0.rows f.v.Items)) :: .p (.slice 7 (Q1.rows f.kids)) :: iI f.element :: iI f.inner :: []) :: .cells (iI v1.1.Code :: iI v1.1.Kind :: iI v1.1.Width :: .p (.bool v1.1.Sized) :: .p (.bool v1.1.Items) :: []) :: .cells (Xq (cI .u8) v6.2.b) :: []), .tuple [], ⟨(rE rfl <| rE rfl <| rN), (hE rfl <| hO rfl <| hN), rfl, rfl, (roE rfl <| roE (Qb _ _ _) <| roN), rfl, (fR 0 rfl rfl rfl rfl <| fD <| fK rfl rfl <| fK rfl rfl <| fO 2 rfl rfl rfl <| fN), rfl⟩, ?_⟩
  obtain rfl := Ql h
  show Exists _
  exact ⟨(rho [0, 1, 4]), ⟨(rE rfl <| rN), (hE rfl <| hD <| hO rfl <| hN), rfl, rfl, (roE rfl <| roE rfl <| roE (Qb _ _ _) <| roN)⟩⟩
 ·apply iU h <;> intro h
  ·refine Q36 10 rfl rfl ?_
   refine cG h Yf fun v9 h => ?_
   refine ⟨rho [0, 1], (.cells (.slice 1 4 0 v9.2.b.length :: []) :: .dead :: .cells (iI f.v.Kind :: iW f.v.N' :: iS f.v.Text :: .p (.slice 4 (Q0.rows f.v.Items)) :: .p (.slice 7 (Q1.rows f.kids)) :: iI f.element :: iI f.inner :: []) :: .cells (iI v1.1.Code :: iI v1.1.Kind :: iI v1.1.Width :: .p (.bool v1.1.Sized) :: .p (.bool v1.1.Items) :: []) :: .cells (Xq (cI .u8) v9.2.b) :: []), .tuple [], ⟨(rE rfl <| rE rfl <| rE rfl <| rN), (hE rfl <| hO rfl <| hN), rfl, rfl, (roE rfl <| roE (Qb _ _ _) <| roN), rfl, (fR 0 rfl rfl rfl rfl <| fD <| fK rfl rfl <| fK rfl rfl <| fO 2 rfl rfl rfl <| fN), rfl⟩, ?_⟩
   refine Q36 8 rfl rfl ?_
   refine cG h Yf fun v11 h => ?_
   refine ⟨rho [0, 4], (.cells (.slice 1 5 0 v11.2.b.length :: []) :: .dead :: .cells (iI f.v.Kind :: iW f.v.N' :: iS f.v.Text :: .p (.slice 4 (Q0.rows f.v.Items)) :: .p (.slice 7 (Q1.rows f.kids)) :: iI f.element :: iI f.inner :: []) :: .cells (iI v1.1.Code :: iI v1.1.Kind :: iI v1.1.Width :: .p (.bool v1.1.Sized) :: .p (.bool v1.1.Items) :: []) :: .dead :: .cells (Xq (cI .u8) v11.2.b) :: []), .tuple [], ⟨(rE rfl <| rE rfl <| rE rfl <| rN), (hE rfl <| hO rfl <| hN), rfl, rfl, (roE rfl <| roE (Qb _ _ _) <| roN), rfl, (fR 0 rfl rfl rfl rfl <| fD <| fK rfl rfl <| fK rfl rfl <| fD <| fO 2 rfl rfl rfl <| fN), rfl⟩, ?_⟩
   refine ifO h (fun hc13 h => ?_) (fun hc13 h => ?_)
   ·refine Q36 5 rfl rfl ?_
    refine cG h Yf fun v14 h => ?_
    refine ⟨rho [0, 5], (.cells (.slice 1 6 0 v14.2.b.length :: []) :: .dead :: .cells (iI f.v.Kind :: iW f.v.N' :: iS f.v.Text :: .p (.slice 4 (Q0.rows f.v.Items)) :: .p (.slice 7 (Q1.rows f.kids)) :: iI f.element :: iI f.inner :: []) :: .cells (iI v1.1.Code :: iI v1.1.Kind :: iI v1.1.Width :: .p (.bool v1.1.Sized) :: .p (.bool v1.1.Items) :: []) :: .dead :: .dead :: .cells (Xq (cI .u8) v14.2.b) :: []), .tuple [], ⟨(rE rfl <| rE rfl <| rE rfl <| rN), (hE rfl <| hO rfl <| hN), rfl, rfl, (roE rfl <| roE (Qb _ _ _) <| roN), rfl, (fR 0 rfl rfl rfl rfl <| fD <| fK rfl rfl <| fK rfl rfl <| fD <| fD <| fO 2 rfl rfl rfl <| fN), rfl⟩, ?_⟩
    refine lpC (τ := Int × (List Int)) (fun ⟨s28, _⟩ => (.ptr 0 0 :: a4 (.ptr 2 0 :: .ptr 3 0 :: a16 (a16 (a16 (a8 (.any :: .p (.slice 7 (Q1.rows f.kids)) :: iI ((Q1.rows f.kids).length : Int) :: iI s28 :: a8 (a4 (a2 (.any :: [])))))))) : List AV)) (fun ⟨_, l29⟩ => (.cells (.slice 1 7 0 l29.length :: []) :: .dead :: .cells (iI f.v.Kind :: iW f.v.N' :: iS f.v.Text :: .p (.slice 4 (Q0.rows f.v.Items)) :: .p (.slice 7 (Q1.rows f.kids)) :: iI f.element :: iI f.inner :: []) :: .cells (iI v1.1.Code :: iI v1.1.Kind :: iI v1.1.Width :: .p (.bool v1.1.Sized) :: .p (.bool v1.1.Items) :: []) :: .dead :: .dead :: .dead :: .cells (Xq (cI .u8) l29) :: [] : List AObj)) (fun n0 ⟨s28, l29⟩ => Zx ry1 N f n0 s28 l29) (0, v14.2.b) h (rho [0, 1, 2, 3, 4, 5, 6, 6]) ⟨(rE rfl <| rV <| rE rfl <| rE rfl <| rX <| rX <| rX <| rX <| rX <| rX <| rX <| rA <| rE rfl <| rE rfl <| rE rfl <| rX <| rV <| rW <| rA <| rN), (hE rfl <| hD <| hE rfl <| hE rfl <| hD <| hD <| hD <| hO rfl <| hN), rfl, rfl, (roE rfl <| roE rfl <| roE rfl <| roE rfl <| roE rfl <| roE rfl <| roE rfl <| roE (Qb _ _ _) <| roN)⟩ fun n0 ⟨s28, l29⟩ h => ?_
    simp only [Zx] at h
    apply iU h <;> intro h
    ·refine Q1.xR h fun y31 h => ?_
     refine ifT hc13 ?_
     refine cG h hy3 fun v33 h => ?_
     refine ⟨rho [0, 7], (.cells (.slice 1 9 0 v33.2.buffer.b.length :: []) :: .dead :: .cells (iI f.v.Kind :: iW f.v.N' :: iS f.v.Text :: .p (.slice 4 (Q0.rows f.v.Items)) :: .p (.slice 7 (Q1.rows f.kids)) :: iI f.element :: iI f.inner :: []) :: .cells (iI v1.1.Code :: iI v1.1.Kind :: iI v1.1.Width :: .p (.bool v1.1.Sized) :: .p (.bool v1.1.Items) :: []) :: .dead :: .dead :: .dead :: .dead :: .cells (iI y31.v.Kind :: iW y31.v.N' :: iS y31.v.Text :: .p (.slice 4 (Q0.rows y31.v.Items)) :: .p (.slice 7 (Q1.rows y31.kids)) :: iI y31.element :: iI y31.inner :: []) :: .cells (Xq (cI .u8) v33.2.buffer.b) :: []), .tuple [], ⟨(rE rfl <| rE rfl <| rF (Frz.agg' (.cons (.p _) (.cons (.p _) p5))) <| rN), (hE rfl <| hO rfl <| hN), rfl, rfl, (roE rfl <| roE (Qb _ _ _) <| roN), rfl, (fR 0 rfl rfl rfl rfl <| fD <| fK rfl rfl <| fK rfl rfl <| fD <| fD <| fD <| fD <| fK rfl rfl <| fO 2 rfl rfl rfl <| fN), rfl⟩, ?_⟩
     show Exists _
     exact ⟨(n0, (IntKind.wrap .i64 (s28 + 1)), v33.2.buffer.b), h, Nat.lt_succ_self _, (rho [0, 1, 2, 3, 4, 5, 6, 9]), ⟨(rE rfl <| rV <| rE rfl <| rE rfl <| rX <| rX <| rX <| rX <| rX <| rX <| rX <| rA <| rE rfl <| rE rfl <| rE rfl <| rX <| rV <| rW <| rA <| rN), (hE rfl <| hD <| hE rfl <| hE rfl <| hD <| hD <| hD <| hO rfl <| hN), rfl, rfl, (roE rfl <| roE rfl <| roE rfl <| roE rfl <| roE rfl <| roE rfl <| roE rfl <| roE (Qb _ _ _) <| roN)⟩⟩
    ·obtain rfl := Ql h
     show Exists _
     exact ⟨(rho [0, 1, 7]), ⟨(rE rfl <| rN), (hE rfl <| hD <| hO rfl <| hN), rfl, rfl, (roE rfl <| roE rfl <| roE (Qb _ _ _) <| roN)⟩⟩
   ·refine lpC (τ := Int × (List Int)) (fun ⟨s47, _⟩ => (.ptr 0 0 :: a4 (.ptr 2 0 :: .ptr 3 0 :: a16 (a16 (a16 (a8 (.any :: .p (.slice 7 (Q1.rows f.kids)) :: iI ((Q1.rows f.kids).length : Int) :: iI s47 :: a8 (a4 (a2 (.any :: [])))))))) : List AV)) (fun ⟨_, l48⟩ => (.cells (.slice 1 6 0 l48.length :: []) :: .dead :: .cells (iI f.v.Kind :: iW f.v.N' :: iS f.v.Text :: .p (.slice 4 (Q0.rows f.v.Items)) :: .p (.slice 7 (Q1.rows f.kids)) :: iI f.element :: iI f.inner :: []) :: .cells (iI v1.1.Code :: iI v1.1.Kind :: iI v1.1.Width :: .p (.bool v1.1.Sized) :: .p (.bool v1.1.Items) :: []) :: .dead :: .dead :: .cells (Xq (cI .u8) l48) :: [] : List AObj)) (fun n1 ⟨s47, l48⟩ => Zv rx1 N f n1 s47 l48) (0, v11.2.b) h (rho [0, 1, 2, 3, 4, 5, 5]) ⟨(rE rfl <| rV <| rE rfl <| rE rfl <| rX <| rX <| rX <| rX <| rX <| rX <| rX <| rA <| rE rfl <| rE rfl <| rE rfl <| rX <| rV <| rW <| rA <| rN), (hE rfl <| hD <| hE rfl <| hE rfl <| hD <| hD <| hO rfl <| hN), rfl, rfl, (roE rfl <| roE rfl <| roE rfl <| roE rfl <| roE rfl <| roE rfl <| roE (Qb _ _ _) <| roN)⟩ fun n1 ⟨s47, l48⟩ h => ?_
    simp only [Zv] at h
    apply iU h <;> intro h
    ·refine Q1.xR h fun y50 h => ?_
     refine ifF hc13 ?_
     refine cG h hx3 fun v52 h => ?_
     refine ⟨rho [0, 6], (.cells (.slice 1 8 0 v52.2.buffer.b.length :: []) :: .dead :: .cells (iI f.v.Kind :: iW f.v.N' :: iS f.v.Text :: .p (.slice 4 (Q0.rows f.v.Items)) :: .p (.slice 7 (Q1.rows f.kids)) :: iI f.element :: iI f.inner :: []) :: .cells (iI v1.1.Code :: iI v1.1.Kind :: iI v1.1.Width :: .p (.bool v1.1.Sized) :: .p (.bool v1.1.Items) :: []) :: .dead :: .dead :: .dead :: .cells (iI y50.v.Kind :: iW y50.v.N' :: iS y50.v.Text :: .p (.slice 4 (Q0.rows y50.v.Items)) :: .p (.slice 7 (Q1.rows y50.kids)) :: iI y50.element :: iI y50.inner :: []) :: .cells (Xq (cI .u8) v52.2.buffer.b) :: []), .tuple [], ⟨(rE rfl <| rF (Frz.agg' (.cons (.p _) (.cons (.p _) p5))) <| rN), (hE rfl <| hO rfl <| hN), rfl, rfl, (roE rfl <| roE (Qb _ _ _) <| roN), rfl, (fR 0 rfl rfl rfl rfl <| fD <| fK rfl rfl <| fK rfl rfl <| fD <| fD <| fD <| fK rfl rfl <| fO 2 rfl rfl rfl <| fN), rfl⟩, ?_⟩
     show Exists _
     exact ⟨(n1, (IntKind.wrap .i64 (s47 + 1)), v52.2.buffer.b), h, Nat.lt_succ_self _, (rho [0, 1, 2, 3, 4, 5, 8]), ⟨(rE rfl <| rV <| rE rfl <| rE rfl <| rX <| rX <| rX <| rX <| rX <| rX <| rX <| rA <| rE rfl <| rE rfl <| rE rfl <| rX <| rV <| rW <| rA <| rN), (hE rfl <| hD <| hE rfl <| hE rfl <| hD <| hD <| hO rfl <| hN), rfl, rfl, (roE rfl <| roE rfl <| roE rfl <| roE rfl <| roE rfl <| roE rfl <| roE (Qb _ _ _) <| roN)⟩⟩
    ·obtain rfl := Ql h
     show Exists _
     exact ⟨(rho [0, 1, 6]), ⟨(rE rfl <| rN), (hE rfl <| hD <| hO rfl <| hN), rfl, rfl, (roE rfl <| roE rfl <| roE (Qb _ _ _) <| roN)⟩⟩
  ·refine ifO h (fun hc54 h => ?_) (fun hc54 h => ?_)
   ·refine Q36 5 rfl rfl ?_
    refine cG h Yf fun v55 h => ?_
    refine ⟨rho [0, 1], (.cells (.slice 1 4 0 v55.2.b.length :: []) :: .dead :: .cells (iI f.v.Kind :: iW f.v.N' :: iS f.v.Text :: .p (.slice 4 (Q0.rows f.v.Items)) :: .p (.slice 7 (Q1.rows f.kids)) :: iI f.element :: iI f.inner :: []) :: .cells (iI v1.1.Code :: iI v1.1.Kind :: iI v1.1.Width :: .p (.bool v1.1.Sized) :: .p (.bool v1.1.Items) :: []) :: .cells (Xq (cI .u8) v55.2.b) :: []), .tuple [], ⟨(rE rfl <| rE rfl <| rE rfl <| rN), (hE rfl <| hO rfl <| hN), rfl, rfl, (roE rfl <| roE (Qb _ _ _) <| roN), rfl, (fR 0 rfl rfl rfl rfl <| fD <| fK rfl rfl <| fK rfl rfl <| fO 2 rfl rfl rfl <| fN), rfl⟩, ?_⟩
    refine lpC (τ := Int × (List Int)) (fun ⟨s69, _⟩ => (.ptr 0 0 :: a4 (.ptr 2 0 :: .ptr 3 0 :: a16 (a16 (a16 (a8 (.any :: .p (.slice 7 (Q1.rows f.kids)) :: iI ((Q1.rows f.kids).length : Int) :: iI s69 :: a8 (a4 (a2 (.any :: [])))))))) : List AV)) (fun ⟨_, l70⟩ => (.cells (.slice 1 5 0 l70.length :: []) :: .dead :: .cells (iI f.v.Kind :: iW f.v.N' :: iS f.v.Text :: .p (.slice 4 (Q0.rows f.v.Items)) :: .p (.slice 7 (Q1.rows f.kids)) :: iI f.element :: iI f.inner :: []) :: .cells (iI v1.1.Code :: iI v1.1.Kind :: iI v1.1.Width :: .p (.bool v1.1.Sized) :: .p (.bool v1.1.Items) :: []) :: .dead :: .cells (Xq (cI .u8) l70) :: [] : List AObj)) (fun n2 ⟨s69, l70⟩ => W0 ry1 N f n2 s69 l70) (0, v55.2.b) h (rho [0, 1, 2, 3, 4, 4]) ⟨(rE rfl <| rV <| rE rfl <| rE rfl <| rX <| rX <| rX <| rX <| rX <| rX <| rX <| rA <| rE rfl <| rE rfl <| rE rfl <| rX <| rV <| rW <| rA <| rN), (hE rfl <| hD <| hE rfl <| hE rfl <| hD <| hO rfl <| hN), rfl, rfl, (roE rfl <| roE rfl <| roE rfl <| roE rfl <| roE rfl <| roE (Qb _ _ _) <| roN)⟩ fun n2 ⟨s69, l70⟩ h => ?_
    simp only [W0] at h
    apply iU h <;> intro h
    ·refine Q1.xR h fun y72 h => ?_
     refine ifT hc54 ?_
     refine cG h hy3 fun v74 h => ?_
     refine ⟨rho [0, 5], (.cells (.slice 1 7 0 v74.2.buffer.b.length :: []) :: .dead :: .cells (iI f.v.Kind :: iW f.v.N' :: iS f.v.Text :: .p (.slice 4 (Q0.rows f.v.Items)) :: .p (.slice 7 (Q1.rows f.kids)) :: iI f.element :: iI f.inner :: []) :: .cells (iI v1.1.Code :: iI v1.1.Kind :: iI v1.1.Width :: .p (.bool v1.1.Sized) :: .p (.bool v1.1.Items) :: []) :: .dead :: .dead :: .cells (iI y72.v.Kind :: iW y72.v.N' :: iS y72.v.Text :: .p (.slice 4 (Q0.rows y72.v.Items)) :: .p (.slice 7 (Q1.rows y72.kids)) :: iI y72.element :: iI y72.inner :: []) :: .cells (Xq (cI .u8) v74.2.buffer.b) :: []), .tuple [], ⟨(rE rfl <| rE rfl <| rF (Frz.agg' (.cons (.p _) (.cons (.p _) p5))) <| rN), (hE rfl <| hO rfl <| hN), rfl, rfl, (roE rfl <| roE (Qb _ _ _) <| roN), rfl, (fR 0 rfl rfl rfl rfl <| fD <| fK rfl rfl <| fK rfl rfl <| fD <| fD <| fK rfl rfl <| fO 2 rfl rfl rfl <| fN), rfl⟩, ?_⟩
     show Exists _
     exact ⟨(n2, (IntKind.wrap .i64 (s69 + 1)), v74.2.buffer.b), h, Nat.lt_succ_self _, (rho [0, 1, 2, 3, 4, 7]), ⟨(rE rfl <| rV <| rE rfl <| rE rfl <| rX <| rX <| rX <| rX <| rX <| rX <| rX <| rA <| rE rfl <| rE rfl <| rE rfl <| rX <| rV <| rW <| rA <| rN), (hE rfl <| hD <| hE rfl <| hE rfl <| hD <| hO rfl <| hN), rfl, rfl, (roE rfl <| roE rfl <| roE rfl <| roE rfl <| roE rfl <| roE (Qb _ _ _) <| roN)⟩⟩
    ·obtain rfl := Ql h
     show Exists _
     exact ⟨(rho [0, 1, 5]), ⟨(rE rfl <| rN), (hE rfl <| hD <| hO rfl <| hN), rfl, rfl, (roE rfl <| roE rfl <| roE (Qb _ _ _) <| roN)⟩⟩
   ·refine lpC (τ := Int × (List Int)) (fun ⟨s88, _⟩ => (.ptr 0 0 :: a4 (.ptr 2 0 :: .ptr 3 0 :: a16 (a16 (a16 (a8 (.any :: .p (.slice 7 (Q1.rows f.kids)) :: iI ((Q1.rows f.kids).length : Int) :: iI s88 :: a8 (a4 (a2 (.any :: [])))))))) : List AV)) (fun ⟨_, l89⟩ => (.cells (.slice 1 4 0 l89.length :: []) :: .dead :: .cells (iI f.v.Kind :: iW f.v.N' :: iS f.v.Text :: .p (.slice 4 (Q0.rows f.v.Items)) :: .p (.slice 7 (Q1.rows f.kids)) :: iI f.element :: iI f.inner :: []) :: .cells (iI v1.1.Code :: iI v1.1.Kind :: iI v1.1.Width :: .p (.bool v1.1.Sized) :: .p (.bool v1.1.Items) :: []) :: .cells (Xq (cI .u8) l89) :: [] : List AObj)) (fun n3 ⟨s88, l89⟩ => Zw rx1 N f n3 s88 l89) (0, w.buffer.b) h (rho [0, 1, 2, 3, 1]) ⟨(rE rfl <| rV <| rE rfl <| rE rfl <| rX <| rX <| rX <| rX <| rX <| rX <| rX <| rA <| rE rfl <| rE rfl <| rE rfl <| rX <| rV <| rW <| rA <| rN), (hE rfl <| hD <| hE rfl <| hE rfl <| hO rfl <| hN), rfl, rfl, (roE rfl <| roE rfl <| roE rfl <| roE rfl <| roE (Qb _ _ _) <| roN)⟩ fun n3 ⟨s88, l89⟩ h => ?_
    simp only [Zw] at h
    apply iU h <;> intro h
    ·refine Q1.xR h fun y91 h => ?_
     refine ifF hc54 ?_
     refine cG h hx3 fun v93 h => ?_
     refine ⟨rho [0, 4], (.cells (.slice 1 6 0 v93.2.buffer.b.length :: []) :: .dead :: .cells (iI f.v.Kind :: iW f.v.N' :: iS f.v.Text :: .p (.slice 4 (Q0.rows f.v.Items)) :: .p (.slice 7 (Q1.rows f.kids)) :: iI f.element :: iI f.inner :: []) :: .cells (iI v1.1.Code :: iI v1.1.Kind :: iI v1.1.Width :: .p (.bool v1.1.Sized) :: .p (.bool v1.1.Items) :: []) :: .dead :: .cells (iI y91.v.Kind :: iW y91.v.N' :: iS y91.v.Text :: .p (.slice 4 (Q0.rows y91.v.Items)) :: .p (.slice 7 (Q1.rows y91.kids)) :: iI y91.element :: iI y91.inner :: []) :: .cells (Xq (cI .u8) v93.2.buffer.b) :: []), .tuple [], ⟨(rE rfl <| rF (Frz.agg' (.cons (.p _) (.cons (.p _) p5))) <| rN), (hE rfl <| hO rfl <| hN), rfl, rfl, (roE rfl <| roE (Qb _ _ _) <| roN), rfl, (fR 0 rfl rfl rfl rfl <| fD <| fK rfl rfl <| fK rfl rfl <| fD <| fK rfl rfl <| fO 2 rfl rfl rfl <| fN), rfl⟩, ?_⟩
     show Exists _
     exact ⟨(n3, (IntKind.wrap .i64 (s88 + 1)), v93.2.buffer.b), h, Nat.lt_succ_self _, (rho [0, 1, 2, 3, 6]), ⟨(rE rfl <| rV <| rE rfl <| rE rfl <| rX <| rX <| rX <| rX <| rX <| rX <| rX <| rA <| rE rfl <| rE rfl <| rE rfl <| rX <| rV <| rW <| rA <| rN), (hE rfl <| hD <| hE rfl <| hE rfl <| hO rfl <| hN), rfl, rfl, (roE rfl <| roE rfl <| roE rfl <| roE rfl <| roE (Qb _ _ _) <| roN)⟩⟩
    ·obtain rfl := Ql h
     show Exists _
     exact ⟨(rho [0, 1, 4]), ⟨(rE rfl <| rN), (hE rfl <| hD <| hO rfl <| hN), rfl, rfl, (roE rfl <| roE rfl <| roE (Qb _ _ _) <| roN)⟩⟩
def Qt : Nat → (Q2 → Q1 → Option ((Unit) × Q2)) × (Q2 → Int → Q1 → Option ((Unit) × Q2))
 | 0 => (fun _ _ => none, fun _ _ _ => none)
 | N + 1 => (Xk ((Qt N).1) ((Qt N).2) N, Y3 ((Qt N).1) ((Qt N).2) N)
def Z2 (N : Nat) : Q2 → Q1 → Option ((Unit) × Q2) := (Qt N).1
def X1 (N : Nat) : Q2 → Int → Q1 → Option ((Unit) × Q2) := (Qt N).2
theorem Q07 : ∀ N, (∀ {w : Q2} {f : Q1} {r : (Unit) × Q2}, (Qt N).1 w f = some r → GC Tryz.prog G1 62 (.ptr 0 0 :: .p (.agg (Q1.cells f)) :: []) (.cells (.slice 1 1 0 w.buffer.b.length :: []) :: .cells (Xq (cI .u8) w.buffer.b) :: []) (.tuple []) (.cells (.slice 1 2 0 r.2.buffer.b.length :: []) :: .dead :: .cells (Xq (cI .u8) r.2.buffer.b) :: [])) ∧ (∀ {w : Q2} {code : Int} {f : Q1} {r : (Unit) × Q2}, (Qt N).2 w code f = some r → GC Tryz.prog G1 93 (.ptr 0 0 :: .p (.int .i64 code) :: .p (.agg (Q1.cells f)) :: []) (.cells (.slice 1 1 0 w.buffer.b.length :: []) :: .cells (Xq (cI .u8) w.buffer.b) :: []) (.tuple []) (.cells (.slice 1 2 0 r.2.buffer.b.length :: []) :: .dead :: .cells (Xq (cI .u8) r.2.buffer.b) :: [])) := by
 intro N
 induction N with
 | zero => exact ⟨(fun h => by simp [Qt] at h), (fun h => by simp [Qt] at h)⟩
 | succ N ih => exact ⟨(fun h => Q05 (N := N) (fun h => ih.1 h) (fun h => ih.2 h) h), (fun h => Q0n (N := N) (fun h => ih.1 h) (fun h => ih.2 h) h)⟩
theorem Q09 {N : Nat} {w : Q2} {f : Q1} {r : (Unit) × Q2} (h : Z2 N w f = some r) : GC Tryz.prog G1 62 (.ptr 0 0 :: .p (.agg (Q1.cells f)) :: []) (.cells (.slice 1 1 0 w.buffer.b.length :: []) :: .cells (Xq (cI .u8) w.buffer.b) :: []) (.tuple []) (.cells (.slice 1 2 0 r.2.buffer.b.length :: []) :: .dead :: .cells (Xq (cI .u8) r.2.buffer.b) :: []) := (Q07 N).1 h
def Yr (rv : Q1 → Int → Option (Int)) (rz1 : Q1 → Option (Int)) (N : Nat) (f : Q1) (code : Int) : Option (Int) :=
 (Yw N code).bind fun v1 =>
 cond (Q8 .eql v1.1.Kind 25)
 ((rz1 f).bind fun v4 =>
 some v4)
 (cond v1.1.Items
 (cond v1.1.Sized
 (some (IntKind.wrap .i64 ((IntKind.wrap .i64 (2 * v1.1.Width)) + f.inner)))
 (some v1.1.Width))
 (cond v1.1.Sized
 (some (IntKind.wrap .i64 (v1.1.Width + (f.v.Text.length : Int))))
 (some v1.1.Width)))
theorem Q1m {rv : Q1 → Int → Option (Int)} {rz1 : Q1 → Option (Int)} (hx2 : ∀ {f} {code} {r}, rv f code = some r → Zp Tryz.prog G1 74 [.agg (Q1.cells f), .int .i64 code] (.int .i64 r)) (hv2 : ∀ {f} {r}, rz1 f = some r → Zp Tryz.prog G1 94 [.agg (Q1.cells f)] (.int .i64 r)) {N} {f} {code} {r} (h : Yr rv rz1 N f code = some r) : Zp Tryz.prog G1 74 [.agg (Q1.cells f), .int .i64 code] (.int .i64 r) := by
 refine Q4 k74 ?_
 unfold Yr at h
 refine cP h U4 p1 fun v1 h => ?_
 apply iU h <;> intro h
 ·refine cP h hv2 (.cons (Frz.agg' (.cons (.p _) (.cons (.p _) p5))) .nil) fun v4 h => ?_
  cases h; exact (.p _)
 ·apply iU h <;> intro h
  ·refine ifO h (fun hc7 h => ?_) (fun hc7 h => ?_)
   ·cases h; exact (.p _)
   ·refine ifF hc7 ?_
    cases h; exact (.p _)
  ·apply iU h <;> intro h
   ·cases h; exact (.p _)
   ·cases h; exact (.p _)
def Y6 (rv : Q1 → Int → Option (Int)) (N : Nat) (f : Q1) : Nat → Int → Int → Option (Int)
 | 0, _, _ => none
 | n + 1, n17, s18 =>
  cond (Q8 .lss s18 ((Q1.rows f.kids).length : Int))
  ((idx f.kids s18).bind fun y20 =>
  (Xo N y20).bind fun v22 =>
  (rv y20 v22).bind fun v24 =>
  Y6 rv N f n (IntKind.wrap .i64 (n17 + (IntKind.wrap .i64 (1 + v24)))) (IntKind.wrap .i64 (s18 + 1)))
  (some n17)
def U7 (rv : Q1 → Int → Option (Int)) (rz1 : Q1 → Option (Int)) (N : Nat) (f : Q1) : Option (Int) :=
 Y6 rv N f N 0 0
theorem Q0p {rv : Q1 → Int → Option (Int)} {rz1 : Q1 → Option (Int)} (hx2 : ∀ {f} {code} {r}, rv f code = some r → Zp Tryz.prog G1 74 [.agg (Q1.cells f), .int .i64 code] (.int .i64 r)) (hv2 : ∀ {f} {r}, rz1 f = some r → Zp Tryz.prog G1 94 [.agg (Q1.cells f)] (.int .i64 r)) {N} {f} {r} (h : U7 rv rz1 N f = some r) : Zp Tryz.prog G1 94 [.agg (Q1.cells f)] (.int .i64 r) := by
 refine Q4 k94 ?_
 unfold U7 at h
 refine lpC (τ := Int × Int) (fun ⟨n17, s18⟩ => (a2 (.any :: iI n17 :: a2 (.any :: .p (.slice 7 (Q1.rows f.kids)) :: iI ((Q1.rows f.kids).length : Int) :: iI s18 :: a8 (a4 ([])))) : List AV)) (fun ⟨_, _⟩ => (.cells (iI f.v.Kind :: iW f.v.N' :: iS f.v.Text :: .p (.slice 4 (Q0.rows f.v.Items)) :: .p (.slice 7 (Q1.rows f.kids)) :: iI f.element :: iI f.inner :: []) :: [] : List AObj)) (fun n0 ⟨n17, s18⟩ => Y6 rv N f n0 n17 s18) (0, 0) h (fun i => i) ⟨(rW <| rA <| rE rfl <| rW <| rA <| rE rfl <| rE rfl <| rE rfl <| rX <| rV <| rN), (hE rfl <| hN), rfl, rfl, (roE rfl <| roN)⟩ fun n0 ⟨n17, s18⟩ h => ?_
 simp only [Y6] at h
 apply iU h <;> intro h
 ·refine Q1.xR h fun y20 h => ?_
  refine Qw ?_
  refine cD h J2 (.cons (Frz.agg' (.cons (.p _) (.cons (.p _) p5))) .nil) fun v22 h => ?_
  refine cD h hx2 (.cons (Frz.agg' (.cons (.p _) (.cons (.p _) p5))) p1) fun v24 h => ?_
  show Exists _
  exact ⟨(n0, (IntKind.wrap .i64 (n17 + (IntKind.wrap .i64 (1 + v24)))), (IntKind.wrap .i64 (s18 + 1))), h, Nat.lt_succ_self _, (fun i => i), ⟨(rW <| rA <| rE rfl <| rW <| rA <| rE rfl <| rE rfl <| rE rfl <| rX <| rV <| rN), (hE rfl <| hN), rfl, rfl, (roE rfl <| roN)⟩⟩
 ·cases h; exact (.p _)
def Zb : Nat → (Q1 → Int → Option (Int)) × (Q1 → Option (Int))
 | 0 => (fun _ _ => none, fun _ => none)
 | N + 1 => (Yr ((Zb N).1) ((Zb N).2) N, U7 ((Zb N).1) ((Zb N).2) N)
def Y0 (N : Nat) : Q1 → Int → Option (Int) := (Zb N).1
def Zh (N : Nat) : Q1 → Option (Int) := (Zb N).2
theorem J1 : ∀ N, (∀ {f : Q1} {code : Int} {r : Int}, (Zb N).1 f code = some r → Zp Tryz.prog G1 74 [.agg (Q1.cells f), .int .i64 code] (.int .i64 r)) ∧ (∀ {f : Q1} {r : Int}, (Zb N).2 f = some r → Zp Tryz.prog G1 94 [.agg (Q1.cells f)] (.int .i64 r)) := by
 intro N
 induction N with
 | zero => exact ⟨(fun h => by simp [Zb] at h), (fun h => by simp [Zb] at h)⟩
 | succ N ih => exact ⟨(fun h => Q1m (N := N) (fun h => ih.1 h) (fun h => ih.2 h) h), (fun h => Q0p (N := N) (fun h => ih.1 h) (fun h => ih.2 h) h)⟩
theorem Q1w {N : Nat} {f : Q1} {code : Int} {r : Int} (h : Y0 N f code = some r) : Zp Tryz.prog G1 74 [.agg (Q1.cells f), .int .i64 code] (.int .i64 r) := (J1 N).1 h
theorem Wk {N : Nat} {f : Q1} {r : Int} (h : Zh N f = some r) : Zp Tryz.prog G1 94 [.agg (Q1.cells f)] (.int .i64 r) := (J1 N).2 h
def Y7 (N : Nat) (f : Q1) : Nat → Int → Int → Option (Int)
 | 0, _, _ => none
 | n + 1, n13, s14 =>
  cond (Q8 .lss s14 ((Q1.rows f.kids).length : Int))
  ((idx f.kids s14).bind fun y16 =>
  (Y0 N y16 f.element).bind fun v18 =>
  Y7 N f n (IntKind.wrap .i64 (n13 + v18)) (IntKind.wrap .i64 (s14 + 1)))
  (some n13)
def W8 (N : Nat) (f : Q1) : Option (Int) :=
 Y7 N f N 1 0
theorem Uu {N} {f} {r} (h : W8 N f = some r) : Zp Tryz.prog G1 95 [.agg (Q1.cells f)] (.int .i64 r) := by
 refine Q4 k95 ?_
 unfold W8 at h
 refine lpC (τ := Int × Int) (fun ⟨n13, s14⟩ => (.any :: .ptr 0 0 :: .any :: iI n13 :: a2 (.any :: .p (.slice 7 (Q1.rows f.kids)) :: iI ((Q1.rows f.kids).length : Int) :: iI s14 :: a8 (a2 (.any :: []))) : List AV)) (fun ⟨_, _⟩ => (.cells (iI f.v.Kind :: iW f.v.N' :: iS f.v.Text :: .p (.slice 4 (Q0.rows f.v.Items)) :: .p (.slice 7 (Q1.rows f.kids)) :: iI f.element :: iI f.inner :: []) :: [] : List AObj)) (fun n0 ⟨n13, s14⟩ => Y7 N f n0 n13 s14) (1, 0) h (fun i => i) ⟨(rA <| rE rfl <| rA <| rE rfl <| rW <| rA <| rE rfl <| rE rfl <| rE rfl <| rX <| rW <| rA <| rN), (hE rfl <| hN), rfl, rfl, (roE rfl <| roN)⟩ fun n0 ⟨n13, s14⟩ h => ?_
 simp only [Y7] at h
 apply iU h <;> intro h
 ·refine Q1.xR h fun y16 h => ?_
  refine cP h Q1w (.cons (Frz.agg' (.cons (.p _) (.cons (.p _) p5))) p1) fun v18 h => ?_
  show Exists _
  exact ⟨(n0, (IntKind.wrap .i64 (n13 + v18)), (IntKind.wrap .i64 (s14 + 1))), h, Nat.lt_succ_self _, (fun i => i), ⟨(rA <| rE rfl <| rA <| rE rfl <| rW <| rA <| rE rfl <| rE rfl <| rE rfl <| rX <| rW <| rA <| rN), (hE rfl <| hN), rfl, rfl, (roE rfl <| roN)⟩⟩
 ·cases h; exact (.p _)
end
end
end Go.Av
