/- The law. Part of a proof of a given statement: for every input the law returns true and the arguments read as before; no condition beyond the given row. -/
import Derived.Test.YtgalebkdefaonaaDoorLiftF0
namespace Go.Av
noncomputable section
open Go.Proofs
set_option maxRecDepth 100000
set_option maxHeartbeats 4000000
attribute [local irreducible] dcallP CallsA LoopA DrawA cmpI cmpS
section
def F_polyglotlaw16_AmqprimWidths_J3 (_N : Nat) (v : SValue) (v56 : SCtor × Bool) (v108 : (List UInt8) × Int) (s128 : Bool) : Option (Bool) :=
  cond s128
  (some false)
  (cond (cmpI .neq v108.2 0)
  (some (cmpS .eql v108.1 []))
  (cond v56.1.Sized
  (cond (cmpI .eql (v108.1.length : Int) (IntKind.wrap .i64 (v56.1.Width + (v.Text.length : Int))))
  (cond (decide (0 ≤ v56.1.Width)) (cond (Nat.ble v56.1.Width.toNat v108.1.length && Nat.ble v108.1.length v108.1.length) (some (cmpS .eql ((v108.1.take v108.1.length).drop v56.1.Width.toNat) v.Text)) none) none)
  (some false))
  (some (cmpI .eql (v108.1.length : Int) v56.1.Width))))
def F_polyglotlaw16_AmqprimWidths_J2 (N : Nat) (v : SValue) (w : SValue) (v28 : List Int) (v48 : Int) (v56 : SCtor × Bool) (s93 : Bool) : Option (Bool) :=
  cond s93
  (some false)
  ((idx v28 v48).bind fun y106 =>
  (F_amqprim_Put N y106 v).bind fun v108 =>
  (idx v28 v48).bind fun y110 =>
  (F_amqprim_Put N y110 w).bind fun v112 =>
  cond (cmpI .eql v108.2 0)
  (cond (cmpI .eql v112.2 0)
  ((F_polyglotkit_SameValue N v w).bind fun v131 =>
  F_polyglotlaw16_AmqprimWidths_J3 N v v56 v108 (!((cmpS .eql v108.1 v112.1) == v131)))
  (F_polyglotlaw16_AmqprimWidths_J3 N v v56 v108 false))
  (F_polyglotlaw16_AmqprimWidths_J3 N v v56 v108 false))
def F_polyglotlaw16_AmqprimWidths_J1 (N : Nat) (v : SValue) (w : SValue) (i : Int) (k_3 : Int) (v28 : List Int) (s41 : Bool) : Option (Bool) :=
  cond s41
  (some true)
  ((F_polyglotkit_Pick N i ((rowsC (cI .i64) v28).length : Int)).bind fun v46 =>
  (F_polyglotkit_Pick N k_3 ((rowsC (cI .i64) v28).length : Int)).bind fun v48 =>
  (idx v28 v46).bind fun y50 =>
  (F_amqprim_Of N y50).bind fun v52 =>
  (idx v28 v48).bind fun y54 =>
  (F_amqprim_Of N y54).bind fun v56 =>
  cond (cmpI .gtr v52.1.Width 0)
  (cond (cmpI .leq v52.1.Width v56.1.Width)
  ((idx v28 v46).bind fun y96 =>
  (F_amqprim_Fits N y96 v).bind fun v98 =>
  cond v98
  ((idx v28 v48).bind fun y101 =>
  (F_amqprim_Fits N y101 v).bind fun v103 =>
  F_polyglotlaw16_AmqprimWidths_J2 N v w v28 v48 v56 (!v103))
  (F_polyglotlaw16_AmqprimWidths_J2 N v w v28 v48 v56 false))
  (F_polyglotlaw16_AmqprimWidths_J2 N v w v28 v48 v56 false))
  (F_polyglotlaw16_AmqprimWidths_J2 N v w v28 v48 v56 false))
def F_polyglotlaw16_AmqprimWidths_J0 (N : Nat) (v : SValue) (w : SValue) (i : Int) (k_3 : Int) (s21 : Bool) : Option (Bool) :=
  cond s21
  (some true)
  ((F_amqprim_Codes N v.Kind).bind fun v28 =>
  cond (cmpI .eql ((rowsC (cI .i64) v28).length : Int) 0)
  (F_polyglotlaw16_AmqprimWidths_J1 N v w i k_3 v28 true)
  ((F_amqprim_Check N v).bind fun v43 =>
  F_polyglotlaw16_AmqprimWidths_J1 N v w i k_3 v28 (cmpI .neq v43 0)))
def F_polyglotlaw16_AmqprimWidths (N : Nat) (v : SValue) (w : SValue) (i : Int) (k_3 : Int) : Option (Bool) :=
  (F_polyglotlaw16_lives N).bind fun v1 =>
  cond (!v1)
  (some false)
  ((F_polyglotkit_LightValue N v).bind fun v22 =>
  cond (!v22)
  (F_polyglotlaw16_AmqprimWidths_J0 N v w i k_3 true)
  ((F_polyglotkit_LightValue N w).bind fun v25 =>
  F_polyglotlaw16_AmqprimWidths_J0 N v w i k_3 (!v25)))
theorem F_polyglotlaw16_AmqprimWidths_ok {N : Nat} {v : SValue} {w : SValue} {i : Int} {k_3 : Int} {r : Bool} (h : F_polyglotlaw16_AmqprimWidths N v w i k_3 = some r) : Pure Tryd.prog G1 3 [.agg (SValue.cells v), .agg (SValue.cells w), .int .i64 i, .int .i64 k_3] (.bool r) := by
  refine pure_of_ev k3 ?_
  unfold F_polyglotlaw16_AmqprimWidths at h
  obtain ⟨v1, hv2, h⟩ := bindO h
  refine call_pure (F_polyglotlaw16_lives_ok hv2) .nil ?_
  refine ifO h (fun hc3 h => ?_) (fun hc3 h => ?_)
  · have hr := someO h
    subst hr
    exact (.p _)
  · refine seq_rule ?_
    refine join_rule (σ := Bool) (fun s => (.any :: .any :: .p (.int .i64 i) :: .p (.int .i64 k_3) :: .ptr 0 0 :: .ptr 1 0 :: .any :: .any :: .any :: .any :: .any :: .any :: .any :: .any :: .any :: .any :: .any :: .any :: .any :: .any :: .any :: .any :: .any :: .any :: .any :: .any :: .any :: .p (.bool s) :: .any :: .any :: .any :: .any :: .any :: .any :: .any :: .any :: .any :: .any :: .any :: .any :: .any :: .any :: .any :: .any :: .any :: .any :: .any :: .any :: .any :: .any :: .any :: .any :: .any :: .any :: .any :: .any :: .any :: .any :: .any :: .any :: .any :: .any :: .any :: .any :: .any :: .any :: .any :: .any :: .any :: .any :: .any :: .any :: .any :: .any :: .any :: .any :: .any :: .any :: .any :: .any :: .any :: .any :: .any :: .any :: .any :: .any :: .any :: .any :: .any :: .any :: .any :: .any :: .any :: .any :: .any :: .any :: .any :: .any :: .any :: .any :: .any :: .any :: .any :: .any :: .any :: .any :: .any :: .any :: .any :: .any :: .any :: .any :: .any :: .any :: .any :: .any :: .any :: .any :: .any :: .any :: .any :: .any :: .any :: .any :: .any :: .any :: .any :: .any :: .any :: .any :: .any :: .any :: .any :: .any :: .any :: .any :: .any :: .any :: .any :: .any :: .any :: .any :: .any :: .any :: .any :: .any :: .any :: .any :: .any :: .any :: .any :: .any :: [] : List AV)) (fun s => (.cells (.p (.int .i64 v.Kind) :: .p (.int .u64 v.N') :: .p (.str v.Text) :: .p (.slice 4 (SValue.rows v.Items)) :: []) :: .cells (.p (.int .i64 w.Kind) :: .p (.int .u64 w.N') :: .p (.str w.Text) :: .p (.slice 4 (SValue.rows w.Items)) :: []) :: [] : List AObj)) (fun s => F_polyglotlaw16_AmqprimWidths_J0 N v w i k_3 s = some r) (fun _ _ => Nat.le_of_ble_eq_true rfl) ?_ ?_
    · obtain ⟨v22, hv23, h⟩ := bindO h
      refine call_pure (F_polyglotkit_LightValue_ok hv23) (.cons (Frz.agg' (.cons (.p _) (.cons (.p _) (.cons (.p _) (.cons (.p _) .nil))))) .nil) ?_
      refine ifO h (fun hc24 h => ?_) (fun hc24 h => ?_)
      · show Exists _
        exact ⟨(true), h, (fun i => i), ⟨(rA <| rA <| rE rfl <| rE rfl <| rE rfl <| rE rfl <| rA <| rA <| rA <| rA <| rA <| rA <| rA <| rA <| rA <| rA <| rA <| rA <| rA <| rA <| rA <| rA <| rA <| rA <| rA <| rA <| rA <| rE rfl <| rA <| rA <| rA <| rA <| rA <| rA <| rA <| rA <| rA <| rA <| rA <| rA <| rA <| rA <| rA <| rA <| rA <| rA <| rA <| rA <| rA <| rA <| rA <| rA <| rA <| rA <| rA <| rA <| rA <| rA <| rA <| rA <| rA <| rA <| rA <| rA <| rA <| rA <| rA <| rA <| rA <| rA <| rA <| rA <| rA <| rA <| rA <| rA <| rA <| rA <| rA <| rA <| rA <| rA <| rA <| rA <| rA <| rA <| rA <| rA <| rA <| rA <| rA <| rA <| rA <| rA <| rA <| rA <| rA <| rA <| rA <| rA <| rA <| rA <| rA <| rA <| rA <| rA <| rA <| rA <| rA <| rA <| rA <| rA <| rA <| rA <| rA <| rA <| rA <| rA <| rA <| rA <| rA <| rA <| rA <| rA <| rA <| rA <| rA <| rA <| rA <| rA <| rA <| rA <| rA <| rA <| rA <| rA <| rA <| rA <| rA <| rA <| rA <| rA <| rA <| rA <| rA <| rA <| rA <| rA <| rA <| rA <| rA <| rA <| rN), (hE rfl <| hE rfl <| hN), rfl, rfl, (roE rfl <| roE rfl <| roN)⟩⟩
      · obtain ⟨v25, hv26, h⟩ := bindO h
        refine call_pure (F_polyglotkit_LightValue_ok hv26) (.cons (Frz.agg' (.cons (.p _) (.cons (.p _) (.cons (.p _) (.cons (.p _) .nil))))) .nil) ?_
        show Exists _
        exact ⟨((!v25)), h, (fun i => i), ⟨(rA <| rA <| rE rfl <| rE rfl <| rE rfl <| rE rfl <| rA <| rA <| rA <| rA <| rA <| rA <| rA <| rA <| rA <| rA <| rA <| rA <| rA <| rA <| rA <| rA <| rA <| rA <| rA <| rA <| rA <| rE rfl <| rA <| rA <| rA <| rA <| rA <| rA <| rA <| rA <| rA <| rA <| rA <| rA <| rA <| rA <| rA <| rA <| rA <| rA <| rA <| rA <| rA <| rA <| rA <| rA <| rA <| rA <| rA <| rA <| rA <| rA <| rA <| rA <| rA <| rA <| rA <| rA <| rA <| rA <| rA <| rA <| rA <| rA <| rA <| rA <| rA <| rA <| rA <| rA <| rA <| rA <| rA <| rA <| rA <| rA <| rA <| rA <| rA <| rA <| rA <| rA <| rA <| rA <| rA <| rA <| rA <| rA <| rA <| rA <| rA <| rA <| rA <| rA <| rA <| rA <| rA <| rA <| rA <| rA <| rA <| rA <| rA <| rA <| rA <| rA <| rA <| rA <| rA <| rA <| rA <| rA <| rA <| rA <| rA <| rA <| rA <| rA <| rA <| rA <| rA <| rA <| rA <| rA <| rA <| rA <| rA <| rA <| rA <| rA <| rA <| rA <| rA <| rA <| rA <| rA <| rA <| rA <| rA <| rA <| rA <| rA <| rA <| rA <| rA <| rA <| rN), (hE rfl <| hE rfl <| hN), rfl, rfl, (roE rfl <| roE rfl <| roN)⟩⟩
    rintro s21 h
    dsimp only [F_polyglotlaw16_AmqprimWidths_J0] at h
    show ev (EP _ _) _ (.any :: .any :: .p (.int .i64 i) :: .p (.int .i64 k_3) :: .ptr 0 0 :: .ptr 1 0 :: .any :: .any :: .any :: .any :: .any :: .any :: .any :: .any :: .any :: .any :: .any :: .any :: .any :: .any :: .any :: .any :: .any :: .any :: .any :: .any :: .any :: .p (.bool s21) :: .any :: .any :: .any :: .any :: .any :: .any :: .any :: .any :: .any :: .any :: .any :: .any :: .any :: .any :: .any :: .any :: .any :: .any :: .any :: .any :: .any :: .any :: .any :: .any :: .any :: .any :: .any :: .any :: .any :: .any :: .any :: .any :: .any :: .any :: .any :: .any :: .any :: .any :: .any :: .any :: .any :: .any :: .any :: .any :: .any :: .any :: .any :: .any :: .any :: .any :: .any :: .any :: .any :: .any :: .any :: .any :: .any :: .any :: .any :: .any :: .any :: .any :: .any :: .any :: .any :: .any :: .any :: .any :: .any :: .any :: .any :: .any :: .any :: .any :: .any :: .any :: .any :: .any :: .any :: .any :: .any :: .any :: .any :: .any :: .any :: .any :: .any :: .any :: .any :: .any :: .any :: .any :: .any :: .any :: .any :: .any :: .any :: .any :: .any :: .any :: .any :: .any :: .any :: .any :: .any :: .any :: .any :: .any :: .any :: .any :: .any :: .any :: .any :: .any :: .any :: .any :: .any :: .any :: .any :: .any :: .any :: .any :: .any :: .any :: []) (.cells (.p (.int .i64 v.Kind) :: .p (.int .u64 v.N') :: .p (.str v.Text) :: .p (.slice 4 (SValue.rows v.Items)) :: []) :: .cells (.p (.int .i64 w.Kind) :: .p (.int .u64 w.N') :: .p (.str w.Text) :: .p (.slice 4 (SValue.rows w.Items)) :: []) :: []) _
    refine ifO h (fun hc27 h => ?_) (fun hc27 h => ?_)
    · have hr := someO h
      subst hr
      exact (.p _)
    · obtain ⟨v28, hv29, h⟩ := bindO h
      refine call_pure (F_amqprim_Codes_ok hv29) (.cons (.p _) .nil) ?_
      refine seq_rule ?_
      refine join_rule (σ := Bool) (fun s => (.any :: .any :: .p (.int .i64 i) :: .p (.int .i64 k_3) :: .ptr 0 0 :: .ptr 1 0 :: .any :: .any :: .any :: .p (.slice 1 (rowsC (cI .i64) v28)) :: .any :: .any :: .any :: .any :: .any :: .any :: .any :: .any :: .any :: .any :: .any :: .any :: .any :: .any :: .any :: .any :: .any :: .any :: .any :: .any :: .any :: .any :: .any :: .any :: .any :: .any :: .any :: .any :: .p (.bool s) :: .any :: .any :: .any :: .any :: .any :: .any :: .any :: .any :: .any :: .any :: .any :: .any :: .any :: .any :: .any :: .any :: .any :: .any :: .any :: .any :: .any :: .any :: .any :: .any :: .any :: .any :: .any :: .any :: .any :: .any :: .any :: .any :: .any :: .any :: .any :: .any :: .any :: .any :: .any :: .any :: .any :: .any :: .any :: .any :: .any :: .any :: .any :: .any :: .any :: .any :: .any :: .any :: .any :: .any :: .any :: .any :: .any :: .any :: .any :: .any :: .any :: .any :: .any :: .any :: .any :: .any :: .any :: .any :: .any :: .any :: .any :: .any :: .any :: .any :: .any :: .any :: .any :: .any :: .any :: .any :: .any :: .any :: .any :: .any :: .any :: .any :: .any :: .any :: .any :: .any :: .any :: .any :: .any :: .any :: .any :: .any :: .any :: .any :: .any :: .any :: .any :: .any :: .any :: .any :: .any :: .any :: .any :: .any :: .any :: .any :: .any :: .any :: .any :: [] : List AV)) (fun s => (.cells (.p (.int .i64 v.Kind) :: .p (.int .u64 v.N') :: .p (.str v.Text) :: .p (.slice 4 (SValue.rows v.Items)) :: []) :: .cells (.p (.int .i64 w.Kind) :: .p (.int .u64 w.N') :: .p (.str w.Text) :: .p (.slice 4 (SValue.rows w.Items)) :: []) :: [] : List AObj)) (fun s => F_polyglotlaw16_AmqprimWidths_J1 N v w i k_3 v28 s = some r) (fun _ _ => Nat.le_of_ble_eq_true rfl) ?_ ?_
      · refine ifO h (fun hc42 h => ?_) (fun hc42 h => ?_)
        · show Exists _
          exact ⟨(true), h, (fun i => i), ⟨(rA <| rA <| rE rfl <| rE rfl <| rE rfl <| rE rfl <| rA <| rA <| rA <| rE rfl <| rA <| rA <| rA <| rA <| rA <| rA <| rA <| rA <| rA <| rA <| rA <| rA <| rA <| rA <| rA <| rA <| rA <| rA <| rA <| rA <| rA <| rA <| rA <| rA <| rA <| rA <| rA <| rA <| rE rfl <| rA <| rA <| rA <| rA <| rA <| rA <| rA <| rA <| rA <| rA <| rA <| rA <| rA <| rA <| rA <| rA <| rA <| rA <| rA <| rA <| rA <| rA <| rA <| rA <| rA <| rA <| rA <| rA <| rA <| rA <| rA <| rA <| rA <| rA <| rA <| rA <| rA <| rA <| rA <| rA <| rA <| rA <| rA <| rA <| rA <| rA <| rA <| rA <| rA <| rA <| rA <| rA <| rA <| rA <| rA <| rA <| rA <| rA <| rA <| rA <| rA <| rA <| rA <| rA <| rA <| rA <| rA <| rA <| rA <| rA <| rA <| rA <| rA <| rA <| rA <| rA <| rA <| rA <| rA <| rA <| rA <| rA <| rA <| rA <| rA <| rA <| rA <| rA <| rA <| rA <| rA <| rA <| rA <| rA <| rA <| rA <| rA <| rA <| rA <| rA <| rA <| rA <| rA <| rA <| rA <| rA <| rA <| rA <| rA <| rA <| rA <| rA <| rA <| rN), (hE rfl <| hE rfl <| hN), rfl, rfl, (roE rfl <| roE rfl <| roN)⟩⟩
        · obtain ⟨v43, hv44, h⟩ := bindO h
          refine call_pure (F_amqprim_Check_ok hv44) (.cons (Frz.agg' (.cons (.p _) (.cons (.p _) (.cons (.p _) (.cons (.p _) .nil))))) .nil) ?_
          show Exists _
          exact ⟨((cmpI .neq v43 0)), h, (fun i => i), ⟨(rA <| rA <| rE rfl <| rE rfl <| rE rfl <| rE rfl <| rA <| rA <| rA <| rE rfl <| rA <| rA <| rA <| rA <| rA <| rA <| rA <| rA <| rA <| rA <| rA <| rA <| rA <| rA <| rA <| rA <| rA <| rA <| rA <| rA <| rA <| rA <| rA <| rA <| rA <| rA <| rA <| rA <| rE rfl <| rA <| rA <| rA <| rA <| rA <| rA <| rA <| rA <| rA <| rA <| rA <| rA <| rA <| rA <| rA <| rA <| rA <| rA <| rA <| rA <| rA <| rA <| rA <| rA <| rA <| rA <| rA <| rA <| rA <| rA <| rA <| rA <| rA <| rA <| rA <| rA <| rA <| rA <| rA <| rA <| rA <| rA <| rA <| rA <| rA <| rA <| rA <| rA <| rA <| rA <| rA <| rA <| rA <| rA <| rA <| rA <| rA <| rA <| rA <| rA <| rA <| rA <| rA <| rA <| rA <| rA <| rA <| rA <| rA <| rA <| rA <| rA <| rA <| rA <| rA <| rA <| rA <| rA <| rA <| rA <| rA <| rA <| rA <| rA <| rA <| rA <| rA <| rA <| rA <| rA <| rA <| rA <| rA <| rA <| rA <| rA <| rA <| rA <| rA <| rA <| rA <| rA <| rA <| rA <| rA <| rA <| rA <| rA <| rA <| rA <| rA <| rA <| rA <| rN), (hE rfl <| hE rfl <| hN), rfl, rfl, (roE rfl <| roE rfl <| roN)⟩⟩
      rintro s41 h
      dsimp only [F_polyglotlaw16_AmqprimWidths_J1] at h
      show ev (EP _ _) _ (.any :: .any :: .p (.int .i64 i) :: .p (.int .i64 k_3) :: .ptr 0 0 :: .ptr 1 0 :: .any :: .any :: .any :: .p (.slice 1 (rowsC (cI .i64) v28)) :: .any :: .any :: .any :: .any :: .any :: .any :: .any :: .any :: .any :: .any :: .any :: .any :: .any :: .any :: .any :: .any :: .any :: .any :: .any :: .any :: .any :: .any :: .any :: .any :: .any :: .any :: .any :: .any :: .p (.bool s41) :: .any :: .any :: .any :: .any :: .any :: .any :: .any :: .any :: .any :: .any :: .any :: .any :: .any :: .any :: .any :: .any :: .any :: .any :: .any :: .any :: .any :: .any :: .any :: .any :: .any :: .any :: .any :: .any :: .any :: .any :: .any :: .any :: .any :: .any :: .any :: .any :: .any :: .any :: .any :: .any :: .any :: .any :: .any :: .any :: .any :: .any :: .any :: .any :: .any :: .any :: .any :: .any :: .any :: .any :: .any :: .any :: .any :: .any :: .any :: .any :: .any :: .any :: .any :: .any :: .any :: .any :: .any :: .any :: .any :: .any :: .any :: .any :: .any :: .any :: .any :: .any :: .any :: .any :: .any :: .any :: .any :: .any :: .any :: .any :: .any :: .any :: .any :: .any :: .any :: .any :: .any :: .any :: .any :: .any :: .any :: .any :: .any :: .any :: .any :: .any :: .any :: .any :: .any :: .any :: .any :: .any :: .any :: .any :: .any :: .any :: .any :: .any :: .any :: []) (.cells (.p (.int .i64 v.Kind) :: .p (.int .u64 v.N') :: .p (.str v.Text) :: .p (.slice 4 (SValue.rows v.Items)) :: []) :: .cells (.p (.int .i64 w.Kind) :: .p (.int .u64 w.N') :: .p (.str w.Text) :: .p (.slice 4 (SValue.rows w.Items)) :: []) :: []) _
      refine ifO h (fun hc45 h => ?_) (fun hc45 h => ?_)
      · have hr := someO h
        subst hr
        exact (.p _)
      · obtain ⟨v46, hv47, h⟩ := bindO h
        refine call_pure (F_polyglotkit_Pick_ok hv47) (.cons (.p _) (.cons (.p _) .nil)) ?_
        obtain ⟨v48, hv49, h⟩ := bindO h
        refine call_pure (F_polyglotkit_Pick_ok hv49) (.cons (.p _) (.cons (.p _) .nil)) ?_
        obtain ⟨y50, hy51, h⟩ := bindO h
        refine idxP (x := [.int .i64 y50]) (idx_rows hy51) ?_
        obtain ⟨v52, hv53, h⟩ := bindO h
        refine call_pure (F_amqprim_Of_ok hv53) (.cons (.p _) .nil) ?_
        obtain ⟨y54, hy55, h⟩ := bindO h
        refine idxP (x := [.int .i64 y54]) (idx_rows hy55) ?_
        obtain ⟨v56, hv57, h⟩ := bindO h
        refine call_pure (F_amqprim_Of_ok hv57) (.cons (.p _) .nil) ?_
        refine seq_rule ?_
        refine join_rule (σ := Bool) (fun s => (.any :: .any :: .any :: .p (.int .i64 v48) :: .ptr 0 0 :: .ptr 1 0 :: .any :: .any :: .any :: .p (.slice 1 (rowsC (cI .i64) v28)) :: .any :: .any :: .ptr 3 0 :: .any :: .any :: .any :: .any :: .any :: .any :: .any :: .any :: .any :: .any :: .any :: .any :: .any :: .any :: .any :: .any :: .any :: .any :: .any :: .any :: .any :: .any :: .any :: .any :: .any :: .any :: .any :: .any :: .any :: .any :: .any :: .any :: .any :: .any :: .any :: .any :: .any :: .any :: .any :: .any :: .any :: .any :: .any :: .any :: .any :: .any :: .any :: .any :: .any :: .any :: .any :: .any :: .any :: .any :: .any :: .any :: .any :: .any :: .any :: .any :: .any :: .any :: .any :: .any :: .any :: .any :: .any :: .any :: .any :: .any :: .any :: .any :: .any :: .any :: .any :: .any :: .p (.bool s) :: .any :: .any :: .any :: .any :: .any :: .any :: .any :: .any :: .any :: .any :: .any :: .any :: .any :: .any :: .any :: .any :: .any :: .any :: .any :: .any :: .any :: .any :: .any :: .any :: .any :: .any :: .any :: .any :: .any :: .any :: .any :: .any :: .any :: .any :: .any :: .any :: .any :: .any :: .any :: .any :: .any :: .any :: .any :: .any :: .any :: .any :: .any :: .any :: .any :: .any :: .any :: .any :: .any :: .any :: .any :: .any :: .any :: .any :: .any :: .any :: .any :: .any :: [] : List AV)) (fun s => (.cells (.p (.int .i64 v.Kind) :: .p (.int .u64 v.N') :: .p (.str v.Text) :: .p (.slice 4 (SValue.rows v.Items)) :: []) :: .cells (.p (.int .i64 w.Kind) :: .p (.int .u64 w.N') :: .p (.str w.Text) :: .p (.slice 4 (SValue.rows w.Items)) :: []) :: .cells (.p (.int .i64 v52.1.Code) :: .p (.int .i64 v52.1.Kind) :: .p (.int .i64 v52.1.Width) :: .p (.bool v52.1.Sized) :: .p (.bool v52.1.Items) :: []) :: .cells (.p (.int .i64 v56.1.Code) :: .p (.int .i64 v56.1.Kind) :: .p (.int .i64 v56.1.Width) :: .p (.bool v56.1.Sized) :: .p (.bool v56.1.Items) :: []) :: [] : List AObj)) (fun s => F_polyglotlaw16_AmqprimWidths_J2 N v w v28 v48 v56 s = some r) (fun _ _ => Nat.le_of_ble_eq_true rfl) ?_ ?_
        · refine draw_rule ?_
          refine ifO h (fun hc94 h => ?_) (fun hc94 h => ?_)
          · refine ifO h (fun hc95 h => ?_) (fun hc95 h => ?_)
            · obtain ⟨y96, hy97, h⟩ := bindO h
              refine idxP (x := [.int .i64 y96]) (idx_rows hy97) ?_
              obtain ⟨v98, hv99, h⟩ := bindO h
              refine dcall_pure (F_amqprim_Fits_ok hv99) (.cons (.p _) (.cons (Frz.agg' (.cons (.p _) (.cons (.p _) (.cons (.p _) (.cons (.p _) .nil))))) .nil)) ?_
              refine ifO h (fun hc100 h => ?_) (fun hc100 h => ?_)
              · obtain ⟨y101, hy102, h⟩ := bindO h
                refine idxP (x := [.int .i64 y101]) (idx_rows hy102) ?_
                obtain ⟨v103, hv104, h⟩ := bindO h
                refine dcall_pure (F_amqprim_Fits_ok hv104) (.cons (.p _) (.cons (Frz.agg' (.cons (.p _) (.cons (.p _) (.cons (.p _) (.cons (.p _) .nil))))) .nil)) ?_
                show Exists _
                exact ⟨((!v103)), h, (fun i => i), ⟨(rA <| rA <| rA <| rE rfl <| rE rfl <| rE rfl <| rA <| rA <| rA <| rE rfl <| rA <| rA <| rE rfl <| rA <| rA <| rA <| rA <| rA <| rA <| rA <| rA <| rA <| rA <| rA <| rA <| rA <| rA <| rA <| rA <| rA <| rA <| rA <| rA <| rA <| rA <| rA <| rA <| rA <| rA <| rA <| rA <| rA <| rA <| rA <| rA <| rA <| rA <| rA <| rA <| rA <| rA <| rA <| rA <| rA <| rA <| rA <| rA <| rA <| rA <| rA <| rA <| rA <| rA <| rA <| rA <| rA <| rA <| rA <| rA <| rA <| rA <| rA <| rA <| rA <| rA <| rA <| rA <| rA <| rA <| rA <| rA <| rA <| rA <| rA <| rA <| rA <| rA <| rA <| rA <| rE rfl <| rA <| rA <| rA <| rA <| rA <| rA <| rA <| rA <| rA <| rA <| rA <| rA <| rA <| rA <| rA <| rA <| rA <| rA <| rA <| rA <| rA <| rA <| rA <| rA <| rA <| rA <| rA <| rA <| rA <| rA <| rA <| rA <| rA <| rA <| rA <| rA <| rA <| rA <| rA <| rA <| rA <| rA <| rA <| rA <| rA <| rA <| rA <| rA <| rA <| rA <| rA <| rA <| rA <| rA <| rA <| rA <| rA <| rA <| rA <| rA <| rA <| rA <| rN), (hE rfl <| hE rfl <| hE rfl <| hE rfl <| hN), rfl, rfl, (roE rfl <| roE rfl <| roE rfl <| roE rfl <| roN)⟩⟩
              · show Exists _
                exact ⟨(false), h, (fun i => i), ⟨(rA <| rA <| rA <| rE rfl <| rE rfl <| rE rfl <| rA <| rA <| rA <| rE rfl <| rA <| rA <| rE rfl <| rA <| rA <| rA <| rA <| rA <| rA <| rA <| rA <| rA <| rA <| rA <| rA <| rA <| rA <| rA <| rA <| rA <| rA <| rA <| rA <| rA <| rA <| rA <| rA <| rA <| rA <| rA <| rA <| rA <| rA <| rA <| rA <| rA <| rA <| rA <| rA <| rA <| rA <| rA <| rA <| rA <| rA <| rA <| rA <| rA <| rA <| rA <| rA <| rA <| rA <| rA <| rA <| rA <| rA <| rA <| rA <| rA <| rA <| rA <| rA <| rA <| rA <| rA <| rA <| rA <| rA <| rA <| rA <| rA <| rA <| rA <| rA <| rA <| rA <| rA <| rA <| rE rfl <| rA <| rA <| rA <| rA <| rA <| rA <| rA <| rA <| rA <| rA <| rA <| rA <| rA <| rA <| rA <| rA <| rA <| rA <| rA <| rA <| rA <| rA <| rA <| rA <| rA <| rA <| rA <| rA <| rA <| rA <| rA <| rA <| rA <| rA <| rA <| rA <| rA <| rA <| rA <| rA <| rA <| rA <| rA <| rA <| rA <| rA <| rA <| rA <| rA <| rA <| rA <| rA <| rA <| rA <| rA <| rA <| rA <| rA <| rA <| rA <| rA <| rA <| rN), (hE rfl <| hE rfl <| hE rfl <| hE rfl <| hN), rfl, rfl, (roE rfl <| roE rfl <| roE rfl <| roE rfl <| roN)⟩⟩
            · show Exists _
              exact ⟨(false), h, (fun i => i), ⟨(rA <| rA <| rA <| rE rfl <| rE rfl <| rE rfl <| rA <| rA <| rA <| rE rfl <| rA <| rA <| rE rfl <| rA <| rA <| rA <| rA <| rA <| rA <| rA <| rA <| rA <| rA <| rA <| rA <| rA <| rA <| rA <| rA <| rA <| rA <| rA <| rA <| rA <| rA <| rA <| rA <| rA <| rA <| rA <| rA <| rA <| rA <| rA <| rA <| rA <| rA <| rA <| rA <| rA <| rA <| rA <| rA <| rA <| rA <| rA <| rA <| rA <| rA <| rA <| rA <| rA <| rA <| rA <| rA <| rA <| rA <| rA <| rA <| rA <| rA <| rA <| rA <| rA <| rA <| rA <| rA <| rA <| rA <| rA <| rA <| rA <| rA <| rA <| rA <| rA <| rA <| rA <| rA <| rE rfl <| rA <| rA <| rA <| rA <| rA <| rA <| rA <| rA <| rA <| rA <| rA <| rA <| rA <| rA <| rA <| rA <| rA <| rA <| rA <| rA <| rA <| rA <| rA <| rA <| rA <| rA <| rA <| rA <| rA <| rA <| rA <| rA <| rA <| rA <| rA <| rA <| rA <| rA <| rA <| rA <| rA <| rA <| rA <| rA <| rA <| rA <| rA <| rA <| rA <| rA <| rA <| rA <| rA <| rA <| rA <| rA <| rA <| rA <| rA <| rA <| rA <| rA <| rN), (hE rfl <| hE rfl <| hE rfl <| hE rfl <| hN), rfl, rfl, (roE rfl <| roE rfl <| roE rfl <| roE rfl <| roN)⟩⟩
          · show Exists _
            exact ⟨(false), h, (fun i => i), ⟨(rA <| rA <| rA <| rE rfl <| rE rfl <| rE rfl <| rA <| rA <| rA <| rE rfl <| rA <| rA <| rE rfl <| rA <| rA <| rA <| rA <| rA <| rA <| rA <| rA <| rA <| rA <| rA <| rA <| rA <| rA <| rA <| rA <| rA <| rA <| rA <| rA <| rA <| rA <| rA <| rA <| rA <| rA <| rA <| rA <| rA <| rA <| rA <| rA <| rA <| rA <| rA <| rA <| rA <| rA <| rA <| rA <| rA <| rA <| rA <| rA <| rA <| rA <| rA <| rA <| rA <| rA <| rA <| rA <| rA <| rA <| rA <| rA <| rA <| rA <| rA <| rA <| rA <| rA <| rA <| rA <| rA <| rA <| rA <| rA <| rA <| rA <| rA <| rA <| rA <| rA <| rA <| rA <| rE rfl <| rA <| rA <| rA <| rA <| rA <| rA <| rA <| rA <| rA <| rA <| rA <| rA <| rA <| rA <| rA <| rA <| rA <| rA <| rA <| rA <| rA <| rA <| rA <| rA <| rA <| rA <| rA <| rA <| rA <| rA <| rA <| rA <| rA <| rA <| rA <| rA <| rA <| rA <| rA <| rA <| rA <| rA <| rA <| rA <| rA <| rA <| rA <| rA <| rA <| rA <| rA <| rA <| rA <| rA <| rA <| rA <| rA <| rA <| rA <| rA <| rA <| rA <| rN), (hE rfl <| hE rfl <| hE rfl <| hE rfl <| hN), rfl, rfl, (roE rfl <| roE rfl <| roE rfl <| roE rfl <| roN)⟩⟩
        rintro s93 h
        dsimp only [F_polyglotlaw16_AmqprimWidths_J2] at h
        show ev (EP _ _) _ (.any :: .any :: .any :: .p (.int .i64 v48) :: .ptr 0 0 :: .ptr 1 0 :: .any :: .any :: .any :: .p (.slice 1 (rowsC (cI .i64) v28)) :: .any :: .any :: .ptr 3 0 :: .any :: .any :: .any :: .any :: .any :: .any :: .any :: .any :: .any :: .any :: .any :: .any :: .any :: .any :: .any :: .any :: .any :: .any :: .any :: .any :: .any :: .any :: .any :: .any :: .any :: .any :: .any :: .any :: .any :: .any :: .any :: .any :: .any :: .any :: .any :: .any :: .any :: .any :: .any :: .any :: .any :: .any :: .any :: .any :: .any :: .any :: .any :: .any :: .any :: .any :: .any :: .any :: .any :: .any :: .any :: .any :: .any :: .any :: .any :: .any :: .any :: .any :: .any :: .any :: .any :: .any :: .any :: .any :: .any :: .any :: .any :: .any :: .any :: .any :: .any :: .any :: .p (.bool s93) :: .any :: .any :: .any :: .any :: .any :: .any :: .any :: .any :: .any :: .any :: .any :: .any :: .any :: .any :: .any :: .any :: .any :: .any :: .any :: .any :: .any :: .any :: .any :: .any :: .any :: .any :: .any :: .any :: .any :: .any :: .any :: .any :: .any :: .any :: .any :: .any :: .any :: .any :: .any :: .any :: .any :: .any :: .any :: .any :: .any :: .any :: .any :: .any :: .any :: .any :: .any :: .any :: .any :: .any :: .any :: .any :: .any :: .any :: .any :: .any :: .any :: .any :: []) (.cells (.p (.int .i64 v.Kind) :: .p (.int .u64 v.N') :: .p (.str v.Text) :: .p (.slice 4 (SValue.rows v.Items)) :: []) :: .cells (.p (.int .i64 w.Kind) :: .p (.int .u64 w.N') :: .p (.str w.Text) :: .p (.slice 4 (SValue.rows w.Items)) :: []) :: .cells (.p (.int .i64 v52.1.Code) :: .p (.int .i64 v52.1.Kind) :: .p (.int .i64 v52.1.Width) :: .p (.bool v52.1.Sized) :: .p (.bool v52.1.Items) :: []) :: .cells (.p (.int .i64 v56.1.Code) :: .p (.int .i64 v56.1.Kind) :: .p (.int .i64 v56.1.Width) :: .p (.bool v56.1.Sized) :: .p (.bool v56.1.Items) :: []) :: []) _
        refine ifO h (fun hc105 h => ?_) (fun hc105 h => ?_)
        · have hr := someO h
          subst hr
          exact (.p _)
        · refine draw_rule ?_
          obtain ⟨y106, hy107, h⟩ := bindO h
          refine idxP (x := [.int .i64 y106]) (idx_rows hy107) ?_
          obtain ⟨v108, hv109, h⟩ := bindO h
          refine dcall_pure (F_amqprim_Put_ok hv109) (.cons (.p _) (.cons (Frz.agg' (.cons (.p _) (.cons (.p _) (.cons (.p _) (.cons (.p _) .nil))))) .nil)) ?_
          refine draw_rule ?_
          obtain ⟨y110, hy111, h⟩ := bindO h
          refine idxP (x := [.int .i64 y110]) (idx_rows hy111) ?_
          obtain ⟨v112, hv113, h⟩ := bindO h
          refine dcall_pure (F_amqprim_Put_ok hv113) (.cons (.p _) (.cons (Frz.agg' (.cons (.p _) (.cons (.p _) (.cons (.p _) (.cons (.p _) .nil))))) .nil)) ?_
          refine seq_rule ?_
          refine join_rule (σ := Bool) (fun s => (.any :: .any :: .any :: .any :: .ptr 0 0 :: .any :: .any :: .any :: .any :: .any :: .any :: .any :: .ptr 3 0 :: .any :: .p (.str v108.1) :: .p (.int .i64 v108.2) :: .any :: .any :: .any :: .any :: .any :: .any :: .any :: .any :: .any :: .any :: .any :: .any :: .any :: .any :: .any :: .any :: .any :: .any :: .any :: .any :: .any :: .any :: .any :: .any :: .any :: .any :: .any :: .any :: .any :: .any :: .any :: .any :: .any :: .any :: .any :: .any :: .any :: .any :: .any :: .any :: .any :: .any :: .any :: .any :: .any :: .any :: .any :: .any :: .any :: .any :: .any :: .any :: .any :: .any :: .any :: .any :: .any :: .any :: .any :: .any :: .any :: .any :: .any :: .any :: .any :: .any :: .any :: .any :: .any :: .any :: .any :: .any :: .any :: .any :: .any :: .any :: .any :: .any :: .any :: .any :: .any :: .any :: .any :: .any :: .any :: .any :: .any :: .any :: .any :: .any :: .any :: .any :: .any :: .any :: .any :: .any :: .any :: .any :: .any :: .any :: .any :: .any :: .any :: .any :: .any :: .any :: .p (.bool s) :: .any :: .any :: .any :: .any :: .any :: .any :: .any :: .any :: .any :: .any :: .any :: .any :: .any :: .any :: .any :: .any :: .any :: .any :: .any :: .any :: .any :: .any :: .any :: .any :: .any :: .any :: .any :: .any :: .any :: [] : List AV)) (fun s => (.cells (.p (.int .i64 v.Kind) :: .p (.int .u64 v.N') :: .p (.str v.Text) :: .p (.slice 4 (SValue.rows v.Items)) :: []) :: .cells (.p (.int .i64 w.Kind) :: .p (.int .u64 w.N') :: .p (.str w.Text) :: .p (.slice 4 (SValue.rows w.Items)) :: []) :: .cells (.p (.int .i64 v52.1.Code) :: .p (.int .i64 v52.1.Kind) :: .p (.int .i64 v52.1.Width) :: .p (.bool v52.1.Sized) :: .p (.bool v52.1.Items) :: []) :: .cells (.p (.int .i64 v56.1.Code) :: .p (.int .i64 v56.1.Kind) :: .p (.int .i64 v56.1.Width) :: .p (.bool v56.1.Sized) :: .p (.bool v56.1.Items) :: []) :: [] : List AObj)) (fun s => F_polyglotlaw16_AmqprimWidths_J3 N v v56 v108 s = some r) (fun _ _ => Nat.le_of_ble_eq_true rfl) ?_ ?_
          · refine ifO h (fun hc129 h => ?_) (fun hc129 h => ?_)
            · refine ifO h (fun hc130 h => ?_) (fun hc130 h => ?_)
              · obtain ⟨v131, hv132, h⟩ := bindO h
                refine call_pure (F_polyglotkit_SameValue_ok hv132) (.cons (Frz.agg' (.cons (.p _) (.cons (.p _) (.cons (.p _) (.cons (.p _) .nil))))) (.cons (Frz.agg' (.cons (.p _) (.cons (.p _) (.cons (.p _) (.cons (.p _) .nil))))) .nil)) ?_
                show Exists _
                exact ⟨((!((cmpS .eql v108.1 v112.1) == v131))), h, (fun i => i), ⟨(rA <| rA <| rA <| rA <| rE rfl <| rA <| rA <| rA <| rA <| rA <| rA <| rA <| rE rfl <| rA <| rE rfl <| rE rfl <| rA <| rA <| rA <| rA <| rA <| rA <| rA <| rA <| rA <| rA <| rA <| rA <| rA <| rA <| rA <| rA <| rA <| rA <| rA <| rA <| rA <| rA <| rA <| rA <| rA <| rA <| rA <| rA <| rA <| rA <| rA <| rA <| rA <| rA <| rA <| rA <| rA <| rA <| rA <| rA <| rA <| rA <| rA <| rA <| rA <| rA <| rA <| rA <| rA <| rA <| rA <| rA <| rA <| rA <| rA <| rA <| rA <| rA <| rA <| rA <| rA <| rA <| rA <| rA <| rA <| rA <| rA <| rA <| rA <| rA <| rA <| rA <| rA <| rA <| rA <| rA <| rA <| rA <| rA <| rA <| rA <| rA <| rA <| rA <| rA <| rA <| rA <| rA <| rA <| rA <| rA <| rA <| rA <| rA <| rA <| rA <| rA <| rA <| rA <| rA <| rA <| rA <| rA <| rA <| rA <| rA <| rE rfl <| rA <| rA <| rA <| rA <| rA <| rA <| rA <| rA <| rA <| rA <| rA <| rA <| rA <| rA <| rA <| rA <| rA <| rA <| rA <| rA <| rA <| rA <| rA <| rA <| rA <| rA <| rA <| rA <| rA <| rN), (hE rfl <| hE rfl <| hE rfl <| hE rfl <| hN), rfl, rfl, (roE rfl <| roE rfl <| roE rfl <| roE rfl <| roN)⟩⟩
              · show Exists _
                exact ⟨(false), h, (fun i => i), ⟨(rA <| rA <| rA <| rA <| rE rfl <| rA <| rA <| rA <| rA <| rA <| rA <| rA <| rE rfl <| rA <| rE rfl <| rE rfl <| rA <| rA <| rA <| rA <| rA <| rA <| rA <| rA <| rA <| rA <| rA <| rA <| rA <| rA <| rA <| rA <| rA <| rA <| rA <| rA <| rA <| rA <| rA <| rA <| rA <| rA <| rA <| rA <| rA <| rA <| rA <| rA <| rA <| rA <| rA <| rA <| rA <| rA <| rA <| rA <| rA <| rA <| rA <| rA <| rA <| rA <| rA <| rA <| rA <| rA <| rA <| rA <| rA <| rA <| rA <| rA <| rA <| rA <| rA <| rA <| rA <| rA <| rA <| rA <| rA <| rA <| rA <| rA <| rA <| rA <| rA <| rA <| rA <| rA <| rA <| rA <| rA <| rA <| rA <| rA <| rA <| rA <| rA <| rA <| rA <| rA <| rA <| rA <| rA <| rA <| rA <| rA <| rA <| rA <| rA <| rA <| rA <| rA <| rA <| rA <| rA <| rA <| rA <| rA <| rA <| rA <| rE rfl <| rA <| rA <| rA <| rA <| rA <| rA <| rA <| rA <| rA <| rA <| rA <| rA <| rA <| rA <| rA <| rA <| rA <| rA <| rA <| rA <| rA <| rA <| rA <| rA <| rA <| rA <| rA <| rA <| rA <| rN), (hE rfl <| hE rfl <| hE rfl <| hE rfl <| hN), rfl, rfl, (roE rfl <| roE rfl <| roE rfl <| roE rfl <| roN)⟩⟩
            · show Exists _
              exact ⟨(false), h, (fun i => i), ⟨(rA <| rA <| rA <| rA <| rE rfl <| rA <| rA <| rA <| rA <| rA <| rA <| rA <| rE rfl <| rA <| rE rfl <| rE rfl <| rA <| rA <| rA <| rA <| rA <| rA <| rA <| rA <| rA <| rA <| rA <| rA <| rA <| rA <| rA <| rA <| rA <| rA <| rA <| rA <| rA <| rA <| rA <| rA <| rA <| rA <| rA <| rA <| rA <| rA <| rA <| rA <| rA <| rA <| rA <| rA <| rA <| rA <| rA <| rA <| rA <| rA <| rA <| rA <| rA <| rA <| rA <| rA <| rA <| rA <| rA <| rA <| rA <| rA <| rA <| rA <| rA <| rA <| rA <| rA <| rA <| rA <| rA <| rA <| rA <| rA <| rA <| rA <| rA <| rA <| rA <| rA <| rA <| rA <| rA <| rA <| rA <| rA <| rA <| rA <| rA <| rA <| rA <| rA <| rA <| rA <| rA <| rA <| rA <| rA <| rA <| rA <| rA <| rA <| rA <| rA <| rA <| rA <| rA <| rA <| rA <| rA <| rA <| rA <| rA <| rA <| rE rfl <| rA <| rA <| rA <| rA <| rA <| rA <| rA <| rA <| rA <| rA <| rA <| rA <| rA <| rA <| rA <| rA <| rA <| rA <| rA <| rA <| rA <| rA <| rA <| rA <| rA <| rA <| rA <| rA <| rA <| rN), (hE rfl <| hE rfl <| hE rfl <| hE rfl <| hN), rfl, rfl, (roE rfl <| roE rfl <| roE rfl <| roE rfl <| roN)⟩⟩
          rintro s128 h
          dsimp only [F_polyglotlaw16_AmqprimWidths_J3] at h
          show ev (EP _ _) _ (.any :: .any :: .any :: .any :: .ptr 0 0 :: .any :: .any :: .any :: .any :: .any :: .any :: .any :: .ptr 3 0 :: .any :: .p (.str v108.1) :: .p (.int .i64 v108.2) :: .any :: .any :: .any :: .any :: .any :: .any :: .any :: .any :: .any :: .any :: .any :: .any :: .any :: .any :: .any :: .any :: .any :: .any :: .any :: .any :: .any :: .any :: .any :: .any :: .any :: .any :: .any :: .any :: .any :: .any :: .any :: .any :: .any :: .any :: .any :: .any :: .any :: .any :: .any :: .any :: .any :: .any :: .any :: .any :: .any :: .any :: .any :: .any :: .any :: .any :: .any :: .any :: .any :: .any :: .any :: .any :: .any :: .any :: .any :: .any :: .any :: .any :: .any :: .any :: .any :: .any :: .any :: .any :: .any :: .any :: .any :: .any :: .any :: .any :: .any :: .any :: .any :: .any :: .any :: .any :: .any :: .any :: .any :: .any :: .any :: .any :: .any :: .any :: .any :: .any :: .any :: .any :: .any :: .any :: .any :: .any :: .any :: .any :: .any :: .any :: .any :: .any :: .any :: .any :: .any :: .any :: .p (.bool s128) :: .any :: .any :: .any :: .any :: .any :: .any :: .any :: .any :: .any :: .any :: .any :: .any :: .any :: .any :: .any :: .any :: .any :: .any :: .any :: .any :: .any :: .any :: .any :: .any :: .any :: .any :: .any :: .any :: .any :: []) (.cells (.p (.int .i64 v.Kind) :: .p (.int .u64 v.N') :: .p (.str v.Text) :: .p (.slice 4 (SValue.rows v.Items)) :: []) :: .cells (.p (.int .i64 w.Kind) :: .p (.int .u64 w.N') :: .p (.str w.Text) :: .p (.slice 4 (SValue.rows w.Items)) :: []) :: .cells (.p (.int .i64 v52.1.Code) :: .p (.int .i64 v52.1.Kind) :: .p (.int .i64 v52.1.Width) :: .p (.bool v52.1.Sized) :: .p (.bool v52.1.Items) :: []) :: .cells (.p (.int .i64 v56.1.Code) :: .p (.int .i64 v56.1.Kind) :: .p (.int .i64 v56.1.Width) :: .p (.bool v56.1.Sized) :: .p (.bool v56.1.Items) :: []) :: []) _
          refine ifO h (fun hc133 h => ?_) (fun hc133 h => ?_)
          · have hr := someO h
            subst hr
            exact (.p _)
          · refine ifO h (fun hc134 h => ?_) (fun hc134 h => ?_)
            · have hr := someO h
              subst hr
              exact (.p _)
            · refine ifO h (fun hc135 h => ?_) (fun hc135 h => ?_)
              · refine draw_rule ?_
                refine ifO h (fun hc136 h => ?_) (fun hc136 h => ?_)
                · obtain ⟨hk137, h⟩ := chkO h
                  refine chkP hk137 ?_
                  obtain ⟨hk138, h⟩ := chkO h
                  refine chkP hk138 ?_
                  have hr := someO h
                  subst hr
                  exact (.p _)
                · have hr := someO h
                  subst hr
                  exact (.p _)
              · have hr := someO h
                subst hr
                exact (.p _)
def F_octet_Get_L0 (N : Nat) (s_0 : List UInt8) : Nat → Int → Int → Option (Int)
  | 0, _, _ => none
  | n + 1, n12, s13 =>
    cond (cmpI .lss s13 (((s_0.take s_0.length).drop ((IntKind.wrap .i64 ((s_0.length : Int) - 8)).toNat)).length : Int))
    ((idx ((s_0.take s_0.length).drop ((IntKind.wrap .i64 ((s_0.length : Int) - 8)).toNat)) s13).bind fun b15 =>
    F_octet_Get_L0 N s_0 n (orI .u64 (shlI .u64 n12 8) (IntKind.wrap .u64 (b15.toNat : Int))) (IntKind.wrap .i64 (s13 + 1)))
    (some n12)
def F_octet_Get_L1 (N : Nat) (s_0 : List UInt8) : Nat → Int → Int → Option (Int)
  | 0, _, _ => none
  | n + 1, n25, s26 =>
    cond (cmpI .lss s26 (s_0.length : Int))
    ((idx s_0 s26).bind fun b28 =>
    F_octet_Get_L1 N s_0 n (orI .u64 (shlI .u64 n25 8) (IntKind.wrap .u64 (b28.toNat : Int))) (IntKind.wrap .i64 (s26 + 1)))
    (some n25)
def F_octet_Get (N : Nat) (s_0 : List UInt8) : Option (Int) :=
  cond (cmpI .gtr (s_0.length : Int) 8)
  (cond (decide (0 ≤ (IntKind.wrap .i64 ((s_0.length : Int) - 8)))) (cond (Nat.ble (IntKind.wrap .i64 ((s_0.length : Int) - 8)).toNat s_0.length && Nat.ble s_0.length s_0.length) (F_octet_Get_L0 N s_0 N 0 0) none) none)
  (F_octet_Get_L1 N s_0 N 0 0)
theorem F_octet_Get_ok {N : Nat} {s_0 : List UInt8} {r : Int} (h : F_octet_Get N s_0 = some r) : Pure Tryd.prog G1 108 [.str s_0] (.int .u64 r) := by
  refine pure_of_ev k108 ?_
  unfold F_octet_Get at h
  refine ifO h (fun hc1 h => ?_) (fun hc1 h => ?_)
  · obtain ⟨hk2, h⟩ := chkO h
    refine chkP hk2 ?_
    obtain ⟨hk3, h⟩ := chkO h
    refine chkP hk3 ?_
    refine loop_ren (σ := Nat × Int × Int) (fun s => (.p (.str ((s_0.take s_0.length).drop ((IntKind.wrap .i64 ((s_0.length : Int) - 8)).toNat))) :: .any :: .any :: .p (.int .u64 s.2.1) :: .any :: .any :: .any :: .any :: .any :: .any :: .any :: .any :: .any :: .any :: .p (.int .i64 (((s_0.take s_0.length).drop ((IntKind.wrap .i64 ((s_0.length : Int) - 8)).toNat)).length : Int)) :: .p (.int .i64 s.2.2) :: .any :: .any :: .any :: .any :: .any :: .any :: .any :: .any :: .any :: .any :: .any :: [] : List AV)) (fun s => ([] : List AObj)) (fun s => F_octet_Get_L0 N s_0 s.1 s.2.1 s.2.2 = some r) (fun s => s.1) (N, 0, 0) h ⟨(fun i => i), ⟨(rE rfl <| rA <| rA <| rE rfl <| rA <| rA <| rA <| rA <| rA <| rA <| rA <| rA <| rA <| rA <| rE rfl <| rE rfl <| rA <| rA <| rA <| rA <| rA <| rA <| rA <| rA <| rA <| rA <| rA <| rN), (hN), rfl, rfl, (roN)⟩⟩ (fun _ _ => Nat.le_of_ble_eq_true rfl) ?_
    rintro ⟨n0, n12, s13⟩ h
    rcases n0 with _ | n0
    · simp [F_octet_Get_L0] at h
    simp only [F_octet_Get_L0] at h
    show ev (EP _ _) _ (.p (.str ((s_0.take s_0.length).drop ((IntKind.wrap .i64 ((s_0.length : Int) - 8)).toNat))) :: .any :: .any :: .p (.int .u64 n12) :: .any :: .any :: .any :: .any :: .any :: .any :: .any :: .any :: .any :: .any :: .p (.int .i64 (((s_0.take s_0.length).drop ((IntKind.wrap .i64 ((s_0.length : Int) - 8)).toNat)).length : Int)) :: .p (.int .i64 s13) :: .any :: .any :: .any :: .any :: .any :: .any :: .any :: .any :: .any :: .any :: .any :: []) ([]) _
    refine ifO h (fun hc14 h => ?_) (fun hc14 h => ?_)
    · obtain ⟨b15, hy16, h⟩ := bindO h
      refine idxP (x := b15) hy16 ?_
      show Exists _
      exact ⟨(n0, (orI .u64 (shlI .u64 n12 8) (IntKind.wrap .u64 (b15.toNat : Int))), (IntKind.wrap .i64 (s13 + 1))), h, Nat.lt_succ_self _, (fun i => i), ⟨(rE rfl <| rA <| rA <| rE rfl <| rA <| rA <| rA <| rA <| rA <| rA <| rA <| rA <| rA <| rA <| rE rfl <| rE rfl <| rA <| rA <| rA <| rA <| rA <| rA <| rA <| rA <| rA <| rA <| rA <| rN), (hN), rfl, rfl, (roN)⟩⟩
    · have hr := someO h
      subst hr
      exact (.p _)
  · refine loop_ren (σ := Nat × Int × Int) (fun s => (.p (.str s_0) :: .any :: .any :: .p (.int .u64 s.2.1) :: .any :: .any :: .any :: .any :: .any :: .any :: .any :: .any :: .any :: .any :: .p (.int .i64 (s_0.length : Int)) :: .p (.int .i64 s.2.2) :: .any :: .any :: .any :: .any :: .any :: .any :: .any :: .any :: .any :: .any :: .any :: [] : List AV)) (fun s => ([] : List AObj)) (fun s => F_octet_Get_L1 N s_0 s.1 s.2.1 s.2.2 = some r) (fun s => s.1) (N, 0, 0) h ⟨(fun i => i), ⟨(rE rfl <| rA <| rA <| rE rfl <| rA <| rA <| rA <| rA <| rA <| rA <| rA <| rA <| rA <| rA <| rE rfl <| rE rfl <| rA <| rA <| rA <| rA <| rA <| rA <| rA <| rA <| rA <| rA <| rA <| rN), (hN), rfl, rfl, (roN)⟩⟩ (fun _ _ => Nat.le_of_ble_eq_true rfl) ?_
    rintro ⟨n1, n25, s26⟩ h
    rcases n1 with _ | n1
    · simp [F_octet_Get_L1] at h
    simp only [F_octet_Get_L1] at h
    show ev (EP _ _) _ (.p (.str s_0) :: .any :: .any :: .p (.int .u64 n25) :: .any :: .any :: .any :: .any :: .any :: .any :: .any :: .any :: .any :: .any :: .p (.int .i64 (s_0.length : Int)) :: .p (.int .i64 s26) :: .any :: .any :: .any :: .any :: .any :: .any :: .any :: .any :: .any :: .any :: .any :: []) ([]) _
    refine ifO h (fun hc27 h => ?_) (fun hc27 h => ?_)
    · obtain ⟨b28, hy29, h⟩ := bindO h
      refine idxP (x := b28) hy29 ?_
      show Exists _
      exact ⟨(n1, (orI .u64 (shlI .u64 n25 8) (IntKind.wrap .u64 (b28.toNat : Int))), (IntKind.wrap .i64 (s26 + 1))), h, Nat.lt_succ_self _, (fun i => i), ⟨(rE rfl <| rA <| rA <| rE rfl <| rA <| rA <| rA <| rA <| rA <| rA <| rA <| rA <| rA <| rA <| rE rfl <| rE rfl <| rA <| rA <| rA <| rA <| rA <| rA <| rA <| rA <| rA <| rA <| rA <| rN), (hN), rfl, rfl, (roN)⟩⟩
    · have hr := someO h
      subst hr
      exact (.p _)
def F_octet_Cursor_ready (_N : Nat) (c : Soctet_Cursor) : Option ((Bool) × Soctet_Cursor) :=
  some ((cmpI .eql c.err 0), c)
theorem F_octet_Cursor_ready_ok {N : Nat} {c : Soctet_Cursor} {r : (Bool) × Soctet_Cursor} (h : F_octet_Cursor_ready N c = some r) : Meth Tryd.prog G1 110 (Soctet_Cursor.cells c) [] (.bool r.1) (Soctet_Cursor.cells r.2) := by
  refine meth_of_ev k110 ?_
  unfold F_octet_Cursor_ready at h
  have hr := someO h
  subst hr
  exact ⟨_, _, rfl, (.cons (.p _) (.cons (.p _) (.cons (.p _) .nil))), (.p _)⟩
def F_octet_Cursor_has (_N : Nat) (c : Soctet_Cursor) (n_1 : Int) : Option ((Bool) × Soctet_Cursor) :=
  cond (cmpI .geq n_1 0)
  (some ((cmpI .leq n_1 (IntKind.wrap .i64 ((c.text.length : Int) - c.at'))), c))
  (some (false, c))
theorem F_octet_Cursor_has_ok {N : Nat} {c : Soctet_Cursor} {n_1 : Int} {r : (Bool) × Soctet_Cursor} (h : F_octet_Cursor_has N c n_1 = some r) : Meth Tryd.prog G1 111 (Soctet_Cursor.cells c) [.int .i64 n_1] (.bool r.1) (Soctet_Cursor.cells r.2) := by
  refine meth_of_ev k111 ?_
  unfold F_octet_Cursor_has at h
  refine draw_rule ?_
  refine ifO h (fun hc1 h => ?_) (fun hc1 h => ?_)
  · have hr := someO h
    subst hr
    exact ⟨_, _, rfl, (.cons (.p _) (.cons (.p _) (.cons (.p _) .nil))), (.p _)⟩
  · have hr := someO h
    subst hr
    exact ⟨_, _, rfl, (.cons (.p _) (.cons (.p _) (.cons (.p _) .nil))), (.p _)⟩
def F_octet_Cursor_Take (N : Nat) (c : Soctet_Cursor) (n_1 : Int) : Option ((List UInt8) × Soctet_Cursor) :=
  (F_octet_Cursor_ready N c).bind fun v1 =>
  cond (!v1.1)
  (some ([], v1.2))
  ((F_octet_Cursor_has N v1.2 n_1).bind fun v4 =>
  cond (!v4.1)
  (some ([], (⟨v4.2.text, v4.2.at', 3⟩ : Soctet_Cursor)))
  (cond (decide (0 ≤ v4.2.at')) (cond (decide (0 ≤ (IntKind.wrap .i64 (v4.2.at' + n_1)))) (cond (Nat.ble v4.2.at'.toNat ((IntKind.wrap .i64 (v4.2.at' + n_1)).toNat) && Nat.ble ((IntKind.wrap .i64 (v4.2.at' + n_1)).toNat) v4.2.text.length) (some (((v4.2.text.take ((IntKind.wrap .i64 (v4.2.at' + n_1)).toNat)).drop v4.2.at'.toNat), (⟨v4.2.text, (IntKind.wrap .i64 (v4.2.at' + n_1)), v4.2.err⟩ : Soctet_Cursor))) none) none) none))
theorem F_octet_Cursor_Take_ok {N : Nat} {c : Soctet_Cursor} {n_1 : Int} {r : (List UInt8) × Soctet_Cursor} (h : F_octet_Cursor_Take N c n_1 = some r) : Meth Tryd.prog G1 77 (Soctet_Cursor.cells c) [.int .i64 n_1] (.str r.1) (Soctet_Cursor.cells r.2) := by
  refine meth_of_ev k77 ?_
  unfold F_octet_Cursor_Take at h
  obtain ⟨v1, hv2, h⟩ := bindO h
  refine call_meth (F_octet_Cursor_ready_ok hv2) rfl .nil ?_
  refine ifO h (fun hc3 h => ?_) (fun hc3 h => ?_)
  · have hr := someO h
    subst hr
    exact ⟨_, _, rfl, (.cons (.p _) (.cons (.p _) (.cons (.p _) .nil))), (.p _)⟩
  · obtain ⟨v4, hv5, h⟩ := bindO h
    refine call_meth (F_octet_Cursor_has_ok hv5) rfl (.cons (.p _) .nil) ?_
    refine ifO h (fun hc6 h => ?_) (fun hc6 h => ?_)
    · have hr := someO h
      subst hr
      exact ⟨_, _, rfl, (.cons (.p _) (.cons (.p _) (.cons (.p _) .nil))), (.p _)⟩
    · refine draw_rule ?_
      obtain ⟨hk7, h⟩ := chkO h
      refine chkP hk7 ?_
      obtain ⟨hk8, h⟩ := chkO h
      refine chkP hk8 ?_
      obtain ⟨hk9, h⟩ := chkO h
      refine chkP hk9 ?_
      have hr := someO h
      subst hr
      exact ⟨_, _, rfl, (.cons (.p _) (.cons (.p _) (.cons (.p _) .nil))), (.p _)⟩
def F_octet_Cursor_Number (N : Nat) (c : Soctet_Cursor) (size : Int) : Option ((Int) × Soctet_Cursor) :=
  (F_octet_Cursor_Take N c size).bind fun v1 =>
  (F_octet_Get N v1.1).bind fun v3 =>
  some (v3, v1.2)
theorem F_octet_Cursor_Number_ok {N : Nat} {c : Soctet_Cursor} {size : Int} {r : (Int) × Soctet_Cursor} (h : F_octet_Cursor_Number N c size = some r) : Meth Tryd.prog G1 75 (Soctet_Cursor.cells c) [.int .i64 size] (.int .u64 r.1) (Soctet_Cursor.cells r.2) := by
  refine meth_of_ev k75 ?_
  unfold F_octet_Cursor_Number at h
  obtain ⟨v1, hv2, h⟩ := bindO h
  refine call_meth (F_octet_Cursor_Take_ok hv2) rfl (.cons (.p _) .nil) ?_
  obtain ⟨v3, hv4, h⟩ := bindO h
  refine call_pure (F_octet_Get_ok hv4) (.cons (.p _) .nil) ?_
  have hr := someO h
  subst hr
  exact ⟨_, _, rfl, (.cons (.p _) (.cons (.p _) (.cons (.p _) .nil))), (.p _)⟩
def F_octet_Cursor_Rest (_N : Nat) (c : Soctet_Cursor) : Option ((List UInt8) × Soctet_Cursor) :=
  cond (decide (0 ≤ c.at')) (cond (Nat.ble c.at'.toNat c.text.length && Nat.ble c.text.length c.text.length) (some (((c.text.take c.text.length).drop c.at'.toNat), c)) none) none
theorem F_octet_Cursor_Rest_ok {N : Nat} {c : Soctet_Cursor} {r : (List UInt8) × Soctet_Cursor} (h : F_octet_Cursor_Rest N c = some r) : Meth Tryd.prog G1 109 (Soctet_Cursor.cells c) [] (.str r.1) (Soctet_Cursor.cells r.2) := by
  refine meth_of_ev k109 ?_
  unfold F_octet_Cursor_Rest at h
  refine draw_rule ?_
  obtain ⟨hk1, h⟩ := chkO h
  refine chkP hk1 ?_
  obtain ⟨hk2, h⟩ := chkO h
  refine chkP hk2 ?_
  have hr := someO h
  subst hr
  exact ⟨_, _, rfl, (.cons (.p _) (.cons (.p _) (.cons (.p _) .nil))), (.p _)⟩
def F_octet_Cursor_Left (N : Nat) (c : Soctet_Cursor) : Option ((Int) × Soctet_Cursor) :=
  (F_octet_Cursor_Rest N c).bind fun v1 =>
  some ((v1.1.length : Int), v1.2)
theorem F_octet_Cursor_Left_ok {N : Nat} {c : Soctet_Cursor} {r : (Int) × Soctet_Cursor} (h : F_octet_Cursor_Left N c = some r) : Meth Tryd.prog G1 76 (Soctet_Cursor.cells c) [] (.int .i64 r.1) (Soctet_Cursor.cells r.2) := by
  refine meth_of_ev k76 ?_
  unfold F_octet_Cursor_Left at h
  obtain ⟨v1, hv2, h⟩ := bindO h
  refine call_meth (F_octet_Cursor_Rest_ok hv2) rfl .nil ?_
  have hr := someO h
  subst hr
  exact ⟨_, _, rfl, (.cons (.p _) (.cons (.p _) (.cons (.p _) .nil))), (.p _)⟩
def F_amqprim_widen (N : Nat) (c : SCtor) (n_1 : Int) : Option (Int) :=
  (F_amqprim_bits N c.Kind).bind fun v1 =>
  cond v1.2
  (cond (cmpI .gtr c.Width 0)
  (cond (decide (0 ≤ (IntKind.wrap .i64 (64 - (IntKind.wrap .i64 (8 * c.Width)))))) (some (IntKind.wrap .u64 (shrI .i64 (IntKind.wrap .i64 (shlI .u64 n_1 (IntKind.wrap .i64 (64 - (IntKind.wrap .i64 (8 * c.Width)))))) (IntKind.wrap .i64 (64 - (IntKind.wrap .i64 (8 * c.Width))))))) none)
  (some n_1))
  (some n_1)
theorem F_amqprim_widen_ok {N : Nat} {c : SCtor} {n_1 : Int} {r : Int} (h : F_amqprim_widen N c n_1 = some r) : Pure Tryd.prog G1 78 [.agg (SCtor.cells c), .int .u64 n_1] (.int .u64 r) := by
  refine pure_of_ev k78 ?_
  unfold F_amqprim_widen at h
  obtain ⟨v1, hv2, h⟩ := bindO h
  refine call_pure (F_amqprim_bits_ok hv2) (.cons (.p _) .nil) ?_
  refine ifO h (fun hc3 h => ?_) (fun hc3 h => ?_)
  · refine ifO h (fun hc4 h => ?_) (fun hc4 h => ?_)
    · obtain ⟨hk5, h⟩ := chkO h
      refine chkP hk5 ?_
      refine chkP hk5 ?_
      have hr := someO h
      subst hr
      exact (.p _)
    · have hr := someO h
      subst hr
      exact (.p _)
  · have hr := someO h
    subst hr
    exact (.p _)
def F_octet_Cursor_Err (_N : Nat) (c : Soctet_Cursor) : Option ((Int) × Soctet_Cursor) :=
  some (c.err, c)
theorem F_octet_Cursor_Err_ok {N : Nat} {c : Soctet_Cursor} {r : (Int) × Soctet_Cursor} (h : F_octet_Cursor_Err N c = some r) : Meth Tryd.prog G1 79 (Soctet_Cursor.cells c) [] (.int .i64 r.1) (Soctet_Cursor.cells r.2) := by
  refine meth_of_ev k79 ?_
  unfold F_octet_Cursor_Err at h
  have hr := someO h
  subst hr
  exact ⟨_, _, rfl, (.cons (.p _) (.cons (.p _) (.cons (.p _) .nil))), (.p _)⟩
def F_octet_Cursor_At (_N : Nat) (c : Soctet_Cursor) : Option ((Int) × Soctet_Cursor) :=
  some (c.at', c)
theorem F_octet_Cursor_At_ok {N : Nat} {c : Soctet_Cursor} {r : (Int) × Soctet_Cursor} (h : F_octet_Cursor_At N c = some r) : Meth Tryd.prog G1 80 (Soctet_Cursor.cells c) [] (.int .i64 r.1) (Soctet_Cursor.cells r.2) := by
  refine meth_of_ev k80 ?_
  unfold F_octet_Cursor_At at h
  have hr := someO h
  subst hr
  exact ⟨_, _, rfl, (.cons (.p _) (.cons (.p _) (.cons (.p _) .nil))), (.p _)⟩
def F_amqprim_Get (N : Nat) (code : Int) (s_1 : List UInt8) : Option (SValue × Int × Int) :=
  (F_amqprim_Of N code).bind fun v1 =>
  cond (!v1.2)
  (some ((⟨0, 0, [], []⟩ : SValue), 0, 8))
  (cond v1.1.Items
  (some ((⟨0, 0, [], []⟩ : SValue), 0, 8))
  (cond v1.1.Sized
  ((F_octet_Cursor_Number N (⟨s_1, 0, 0⟩ : Soctet_Cursor) v1.1.Width).bind fun v6 =>
  (F_octet_Cursor_Left N v6.2).bind fun v8 =>
  cond (cmpI .gtr v6.1 (IntKind.wrap .u64 v8.1))
  (some ((⟨0, 0, [], []⟩ : SValue), 0, 3))
  ((F_octet_Cursor_Take N v8.2 (IntKind.wrap .i64 v6.1)).bind fun v11 =>
  (F_octet_Cursor_Err N v11.2).bind fun v13 =>
  cond (cmpI .neq v13.1 0)
  ((F_octet_Cursor_Err N v13.2).bind fun v16 =>
  some ((⟨0, 0, [], []⟩ : SValue), 0, v16.1))
  ((F_amqprim_Check N (⟨v1.1.Kind, 0, v11.1, []⟩ : SValue)).bind fun v18 =>
  cond (cmpI .eql v18 0)
  ((F_octet_Cursor_At N v13.2).bind fun v21 =>
  some ((⟨v1.1.Kind, 0, v11.1, []⟩ : SValue), v21.1, 0))
  (cond (cmpI .eql v18 2)
  (some ((⟨0, 0, [], []⟩ : SValue), 0, 5))
  (some ((⟨0, 0, [], []⟩ : SValue), 0, v18))))))
  (cond (cmpI .eql v1.1.Width 16)
  ((F_octet_Cursor_Take N (⟨s_1, 0, 0⟩ : Soctet_Cursor) 16).bind fun v25 =>
  (F_octet_Cursor_Err N v25.2).bind fun v27 =>
  cond (cmpI .neq v27.1 0)
  ((F_octet_Cursor_Err N v27.2).bind fun v30 =>
  some ((⟨0, 0, [], []⟩ : SValue), 0, v30.1))
  ((F_amqprim_Check N (⟨v1.1.Kind, 0, v25.1, []⟩ : SValue)).bind fun v32 =>
  cond (cmpI .eql v32 0)
  ((F_octet_Cursor_At N v27.2).bind fun v35 =>
  some ((⟨v1.1.Kind, 0, v25.1, []⟩ : SValue), v35.1, 0))
  (cond (cmpI .eql v32 2)
  (some ((⟨0, 0, [], []⟩ : SValue), 0, 5))
  (some ((⟨0, 0, [], []⟩ : SValue), 0, v32)))))
  (cond (cmpI .eql v1.1.Code 65)
  ((F_octet_Cursor_Err N (⟨s_1, 0, 0⟩ : Soctet_Cursor)).bind fun v39 =>
  cond (cmpI .neq v39.1 0)
  ((F_octet_Cursor_Err N v39.2).bind fun v42 =>
  some ((⟨0, 0, [], []⟩ : SValue), 0, v42.1))
  ((F_amqprim_Check N (⟨v1.1.Kind, 1, [], []⟩ : SValue)).bind fun v44 =>
  cond (cmpI .eql v44 0)
  ((F_octet_Cursor_At N v39.2).bind fun v47 =>
  some ((⟨v1.1.Kind, 1, [], []⟩ : SValue), v47.1, 0))
  (cond (cmpI .eql v44 2)
  (some ((⟨0, 0, [], []⟩ : SValue), 0, 5))
  (some ((⟨0, 0, [], []⟩ : SValue), 0, v44)))))
  ((F_octet_Cursor_Number N (⟨s_1, 0, 0⟩ : Soctet_Cursor) v1.1.Width).bind fun v50 =>
  (F_amqprim_widen N v1.1 v50.1).bind fun v52 =>
  (F_octet_Cursor_Err N v50.2).bind fun v54 =>
  cond (cmpI .neq v54.1 0)
  ((F_octet_Cursor_Err N v54.2).bind fun v57 =>
  some ((⟨0, 0, [], []⟩ : SValue), 0, v57.1))
  ((F_amqprim_Check N (⟨v1.1.Kind, v52, [], []⟩ : SValue)).bind fun v59 =>
  cond (cmpI .eql v59 0)
  ((F_octet_Cursor_At N v54.2).bind fun v62 =>
  some ((⟨v1.1.Kind, v52, [], []⟩ : SValue), v62.1, 0))
  (cond (cmpI .eql v59 2)
  (some ((⟨0, 0, [], []⟩ : SValue), 0, 5))
  (some ((⟨0, 0, [], []⟩ : SValue), 0, v59)))))))))
theorem F_amqprim_Get_ok {N : Nat} {code : Int} {s_1 : List UInt8} {r : SValue × Int × Int} (h : F_amqprim_Get N code s_1 = some r) : Pure Tryd.prog G1 33 [.int .i64 code, .str s_1] (.tuple [.agg (SValue.cells r.1), .int .i64 r.2.1, .int .i64 r.2.2]) := by
  refine pure_of_ev k33 ?_
  unfold F_amqprim_Get at h
  obtain ⟨v1, hv2, h⟩ := bindO h
  refine call_pure (F_amqprim_Of_ok hv2) (.cons (.p _) .nil) ?_
  refine ifO h (fun hc3 h => ?_) (fun hc3 h => ?_)
  · have hr := someO h
    subst hr
    exact (Frz.tuple' (.cons (Frz.agg' (.cons (.p _) (.cons (.p _) (.cons (.p _) (.cons (.nil _) .nil))))) (.cons (.p _) (.cons (.p _) .nil))))
  · refine ifO h (fun hc4 h => ?_) (fun hc4 h => ?_)
    · have hr := someO h
      subst hr
      exact (Frz.tuple' (.cons (Frz.agg' (.cons (.p _) (.cons (.p _) (.cons (.p _) (.cons (.nil _) .nil))))) (.cons (.p _) (.cons (.p _) .nil))))
    · refine inline k74 ?_
      refine ifO h (fun hc5 h => ?_) (fun hc5 h => ?_)
      · obtain ⟨v6, hv7, h⟩ := bindO h
        refine call_meth (F_octet_Cursor_Number_ok hv7) rfl (.cons (.p _) .nil) ?_
        obtain ⟨v8, hv9, h⟩ := bindO h
        refine call_meth (F_octet_Cursor_Left_ok hv9) rfl .nil ?_
        refine ifO h (fun hc10 h => ?_) (fun hc10 h => ?_)
        · have hr := someO h
          subst hr
          exact (Frz.tuple' (.cons (Frz.agg' (.cons (.p _) (.cons (.p _) (.cons (.p _) (.cons (.nil _) .nil))))) (.cons (.p _) (.cons (.p _) .nil))))
        · obtain ⟨v11, hv12, h⟩ := bindO h
          refine call_meth (F_octet_Cursor_Take_ok hv12) rfl (.cons (.p _) .nil) ?_
          obtain ⟨v13, hv14, h⟩ := bindO h
          refine call_meth (F_octet_Cursor_Err_ok hv14) rfl .nil ?_
          refine ifO h (fun hc15 h => ?_) (fun hc15 h => ?_)
          · obtain ⟨v16, hv17, h⟩ := bindO h
            refine call_meth (F_octet_Cursor_Err_ok hv17) rfl .nil ?_
            have hr := someO h
            subst hr
            exact (Frz.tuple' (.cons (Frz.agg' (.cons (.p _) (.cons (.p _) (.cons (.p _) (.cons (.nil _) .nil))))) (.cons (.p _) (.cons (.p _) .nil))))
          · obtain ⟨v18, hv19, h⟩ := bindO h
            refine call_pure (F_amqprim_Check_ok hv19) (.cons (Frz.agg' (.cons (.p _) (.cons (.p _) (.cons (.p _) (.cons (.nil _) .nil))))) .nil) ?_
            refine ifO h (fun hc20 h => ?_) (fun hc20 h => ?_)
            · refine draw_rule ?_
              obtain ⟨v21, hv22, h⟩ := bindO h
              refine dcall_meth (F_octet_Cursor_At_ok hv22) rfl .nil ?_
              have hr := someO h
              subst hr
              exact (Frz.tuple' (.cons (Frz.agg' (.cons (.p _) (.cons (.p _) (.cons (.p _) (.cons (.nil _) .nil))))) (.cons (.p _) (.cons (.p _) .nil))))
            · refine ifO h (fun hc23 h => ?_) (fun hc23 h => ?_)
              · have hr := someO h
                subst hr
                exact (Frz.tuple' (.cons (Frz.agg' (.cons (.p _) (.cons (.p _) (.cons (.p _) (.cons (.nil _) .nil))))) (.cons (.p _) (.cons (.p _) .nil))))
              · have hr := someO h
                subst hr
                exact (Frz.tuple' (.cons (Frz.agg' (.cons (.p _) (.cons (.p _) (.cons (.p _) (.cons (.nil _) .nil))))) (.cons (.p _) (.cons (.p _) .nil))))
      · refine ifO h (fun hc24 h => ?_) (fun hc24 h => ?_)
        · obtain ⟨v25, hv26, h⟩ := bindO h
          refine call_meth (F_octet_Cursor_Take_ok hv26) rfl (.cons (.p _) .nil) ?_
          obtain ⟨v27, hv28, h⟩ := bindO h
          refine call_meth (F_octet_Cursor_Err_ok hv28) rfl .nil ?_
          refine ifO h (fun hc29 h => ?_) (fun hc29 h => ?_)
          · obtain ⟨v30, hv31, h⟩ := bindO h
            refine call_meth (F_octet_Cursor_Err_ok hv31) rfl .nil ?_
            have hr := someO h
            subst hr
            exact (Frz.tuple' (.cons (Frz.agg' (.cons (.p _) (.cons (.p _) (.cons (.p _) (.cons (.nil _) .nil))))) (.cons (.p _) (.cons (.p _) .nil))))
          · obtain ⟨v32, hv33, h⟩ := bindO h
            refine call_pure (F_amqprim_Check_ok hv33) (.cons (Frz.agg' (.cons (.p _) (.cons (.p _) (.cons (.p _) (.cons (.nil _) .nil))))) .nil) ?_
            refine ifO h (fun hc34 h => ?_) (fun hc34 h => ?_)
            · refine draw_rule ?_
              obtain ⟨v35, hv36, h⟩ := bindO h
              refine dcall_meth (F_octet_Cursor_At_ok hv36) rfl .nil ?_
              have hr := someO h
              subst hr
              exact (Frz.tuple' (.cons (Frz.agg' (.cons (.p _) (.cons (.p _) (.cons (.p _) (.cons (.nil _) .nil))))) (.cons (.p _) (.cons (.p _) .nil))))
            · refine ifO h (fun hc37 h => ?_) (fun hc37 h => ?_)
              · have hr := someO h
                subst hr
                exact (Frz.tuple' (.cons (Frz.agg' (.cons (.p _) (.cons (.p _) (.cons (.p _) (.cons (.nil _) .nil))))) (.cons (.p _) (.cons (.p _) .nil))))
              · have hr := someO h
                subst hr
                exact (Frz.tuple' (.cons (Frz.agg' (.cons (.p _) (.cons (.p _) (.cons (.p _) (.cons (.nil _) .nil))))) (.cons (.p _) (.cons (.p _) .nil))))
        · refine ifO h (fun hc38 h => ?_) (fun hc38 h => ?_)
          · obtain ⟨v39, hv40, h⟩ := bindO h
            refine call_meth (F_octet_Cursor_Err_ok hv40) rfl .nil ?_
            refine ifO h (fun hc41 h => ?_) (fun hc41 h => ?_)
            · obtain ⟨v42, hv43, h⟩ := bindO h
              refine call_meth (F_octet_Cursor_Err_ok hv43) rfl .nil ?_
              have hr := someO h
              subst hr
              exact (Frz.tuple' (.cons (Frz.agg' (.cons (.p _) (.cons (.p _) (.cons (.p _) (.cons (.nil _) .nil))))) (.cons (.p _) (.cons (.p _) .nil))))
            · obtain ⟨v44, hv45, h⟩ := bindO h
              refine call_pure (F_amqprim_Check_ok hv45) (.cons (Frz.agg' (.cons (.p _) (.cons (.p _) (.cons (.p _) (.cons (.nil _) .nil))))) .nil) ?_
              refine ifO h (fun hc46 h => ?_) (fun hc46 h => ?_)
              · refine draw_rule ?_
                obtain ⟨v47, hv48, h⟩ := bindO h
                refine dcall_meth (F_octet_Cursor_At_ok hv48) rfl .nil ?_
                have hr := someO h
                subst hr
                exact (Frz.tuple' (.cons (Frz.agg' (.cons (.p _) (.cons (.p _) (.cons (.p _) (.cons (.nil _) .nil))))) (.cons (.p _) (.cons (.p _) .nil))))
              · refine ifO h (fun hc49 h => ?_) (fun hc49 h => ?_)
                · have hr := someO h
                  subst hr
                  exact (Frz.tuple' (.cons (Frz.agg' (.cons (.p _) (.cons (.p _) (.cons (.p _) (.cons (.nil _) .nil))))) (.cons (.p _) (.cons (.p _) .nil))))
                · have hr := someO h
                  subst hr
                  exact (Frz.tuple' (.cons (Frz.agg' (.cons (.p _) (.cons (.p _) (.cons (.p _) (.cons (.nil _) .nil))))) (.cons (.p _) (.cons (.p _) .nil))))
          · refine draw_rule ?_
            obtain ⟨v50, hv51, h⟩ := bindO h
            refine dcall_meth (F_octet_Cursor_Number_ok hv51) rfl (.cons (.p _) .nil) ?_
            obtain ⟨v52, hv53, h⟩ := bindO h
            refine dcall_pure (F_amqprim_widen_ok hv53) (.cons (Frz.agg' (.cons (.p _) (.cons (.p _) (.cons (.p _) (.cons (.p _) (.cons (.p _) .nil)))))) (.cons (.p _) .nil)) ?_
            obtain ⟨v54, hv55, h⟩ := bindO h
            refine call_meth (F_octet_Cursor_Err_ok hv55) rfl .nil ?_
            refine ifO h (fun hc56 h => ?_) (fun hc56 h => ?_)
            · obtain ⟨v57, hv58, h⟩ := bindO h
              refine call_meth (F_octet_Cursor_Err_ok hv58) rfl .nil ?_
              have hr := someO h
              subst hr
              exact (Frz.tuple' (.cons (Frz.agg' (.cons (.p _) (.cons (.p _) (.cons (.p _) (.cons (.nil _) .nil))))) (.cons (.p _) (.cons (.p _) .nil))))
            · obtain ⟨v59, hv60, h⟩ := bindO h
              refine call_pure (F_amqprim_Check_ok hv60) (.cons (Frz.agg' (.cons (.p _) (.cons (.p _) (.cons (.p _) (.cons (.nil _) .nil))))) .nil) ?_
              refine ifO h (fun hc61 h => ?_) (fun hc61 h => ?_)
              · refine draw_rule ?_
                obtain ⟨v62, hv63, h⟩ := bindO h
                refine dcall_meth (F_octet_Cursor_At_ok hv63) rfl .nil ?_
                have hr := someO h
                subst hr
                exact (Frz.tuple' (.cons (Frz.agg' (.cons (.p _) (.cons (.p _) (.cons (.p _) (.cons (.nil _) .nil))))) (.cons (.p _) (.cons (.p _) .nil))))
              · refine ifO h (fun hc64 h => ?_) (fun hc64 h => ?_)
                · have hr := someO h
                  subst hr
                  exact (Frz.tuple' (.cons (Frz.agg' (.cons (.p _) (.cons (.p _) (.cons (.p _) (.cons (.nil _) .nil))))) (.cons (.p _) (.cons (.p _) .nil))))
                · have hr := someO h
                  subst hr
                  exact (Frz.tuple' (.cons (Frz.agg' (.cons (.p _) (.cons (.p _) (.cons (.p _) (.cons (.nil _) .nil))))) (.cons (.p _) (.cons (.p _) .nil))))
def F_polyglotkit_Same_int_L0 (N : Nat) (a : List Int) (b : List Int) : Nat → Int → Option (Bool)
  | 0, _ => none
  | n + 1, i15 =>
    cond (cmpI .lss i15 ((rowsC (cI .i64) a).length : Int))
    ((idx a i15).bind fun y17 =>
    (idx b i15).bind fun y19 =>
    cond (cmpI .neq y17 y19)
    (some false)
    (F_polyglotkit_Same_int_L0 N a b n (IntKind.wrap .i64 (i15 + 1))))
    (some true)
def F_polyglotkit_Same_int (N : Nat) (a : List Int) (b : List Int) : Option (Bool) :=
  cond (cmpI .neq ((rowsC (cI .i64) a).length : Int) ((rowsC (cI .i64) b).length : Int))
  (some false)
  (F_polyglotkit_Same_int_L0 N a b N 0)
theorem F_polyglotkit_Same_int_ok {N : Nat} {a : List Int} {b : List Int} {r : Bool} (h : F_polyglotkit_Same_int N a b = some r) : Pure Tryd.prog G1 34 [.slice 1 (rowsC (cI .i64) a), .slice 1 (rowsC (cI .i64) b)] (.bool r) := by
  refine pure_of_ev k34 ?_
  unfold F_polyglotkit_Same_int at h
  refine ifO h (fun hc1 h => ?_) (fun hc1 h => ?_)
  · have hr := someO h
    subst hr
    exact (.p _)
  · refine loop_ren (σ := Nat × Int) (fun s => (.p (.slice 1 (rowsC (cI .i64) a)) :: .p (.slice 1 (rowsC (cI .i64) b)) :: .any :: .any :: .any :: .p (.int .i64 s.2) :: .any :: .any :: .any :: .any :: .any :: .any :: .any :: .any :: .any :: .any :: .any :: .any :: .any :: .any :: .any :: .any :: .any :: .any :: .any :: .any :: [] : List AV)) (fun s => ([] : List AObj)) (fun s => F_polyglotkit_Same_int_L0 N a b s.1 s.2 = some r) (fun s => s.1) (N, 0) h ⟨(fun i => i), ⟨(rE rfl <| rE rfl <| rA <| rA <| rA <| rE rfl <| rA <| rA <| rA <| rA <| rA <| rA <| rA <| rA <| rA <| rA <| rA <| rA <| rA <| rA <| rA <| rA <| rA <| rA <| rA <| rA <| rN), (hN), rfl, rfl, (roN)⟩⟩ (fun _ _ => Nat.le_of_ble_eq_true rfl) ?_
    rintro ⟨n0, i15⟩ h
    rcases n0 with _ | n0
    · simp [F_polyglotkit_Same_int_L0] at h
    simp only [F_polyglotkit_Same_int_L0] at h
    show ev (EP _ _) _ (.p (.slice 1 (rowsC (cI .i64) a)) :: .p (.slice 1 (rowsC (cI .i64) b)) :: .any :: .any :: .any :: .p (.int .i64 i15) :: .any :: .any :: .any :: .any :: .any :: .any :: .any :: .any :: .any :: .any :: .any :: .any :: .any :: .any :: .any :: .any :: .any :: .any :: .any :: .any :: []) ([]) _
    refine ifO h (fun hc16 h => ?_) (fun hc16 h => ?_)
    · refine draw_rule ?_
      obtain ⟨y17, hy18, h⟩ := bindO h
      refine idxP (x := [.int .i64 y17]) (idx_rows hy18) ?_
      obtain ⟨y19, hy20, h⟩ := bindO h
      refine idxP (x := [.int .i64 y19]) (idx_rows hy20) ?_
      refine ifO h (fun hc21 h => ?_) (fun hc21 h => ?_)
      · have hr := someO h
        subst hr
        exact (.p _)
      · show Exists _
        exact ⟨(n0, (IntKind.wrap .i64 (i15 + 1))), h, Nat.lt_succ_self _, (fun i => i), ⟨(rE rfl <| rE rfl <| rA <| rA <| rA <| rE rfl <| rA <| rA <| rA <| rA <| rA <| rA <| rA <| rA <| rA <| rA <| rA <| rA <| rA <| rA <| rA <| rA <| rA <| rA <| rA <| rA <| rN), (hN), rfl, rfl, (roN)⟩⟩
    · have hr := someO h
      subst hr
      exact (.p _)
def F_polyglotref16_table (_N : Nat) : Option (List SCtor) :=
  some [(⟨64, 1, 0, false, false⟩ : SCtor), (⟨65, 2, 0, false, false⟩ : SCtor), (⟨66, 2, 0, false, false⟩ : SCtor), (⟨86, 2, 1, false, false⟩ : SCtor), (⟨80, 3, 1, false, false⟩ : SCtor), (⟨96, 4, 2, false, false⟩ : SCtor), (⟨67, 5, 0, false, false⟩ : SCtor), (⟨82, 5, 1, false, false⟩ : SCtor), (⟨112, 5, 4, false, false⟩ : SCtor), (⟨68, 6, 0, false, false⟩ : SCtor), (⟨83, 6, 1, false, false⟩ : SCtor), (⟨128, 6, 8, false, false⟩ : SCtor), (⟨81, 7, 1, false, false⟩ : SCtor), (⟨97, 8, 2, false, false⟩ : SCtor), (⟨84, 9, 1, false, false⟩ : SCtor), (⟨113, 9, 4, false, false⟩ : SCtor), (⟨85, 10, 1, false, false⟩ : SCtor), (⟨129, 10, 8, false, false⟩ : SCtor), (⟨114, 11, 4, false, false⟩ : SCtor), (⟨130, 12, 8, false, false⟩ : SCtor), (⟨116, 13, 4, false, false⟩ : SCtor), (⟨132, 14, 8, false, false⟩ : SCtor), (⟨148, 15, 16, false, false⟩ : SCtor), (⟨115, 16, 4, false, false⟩ : SCtor), (⟨131, 17, 8, false, false⟩ : SCtor), (⟨152, 18, 16, false, false⟩ : SCtor), (⟨160, 19, 1, true, false⟩ : SCtor), (⟨176, 19, 4, true, false⟩ : SCtor), (⟨161, 20, 1, true, false⟩ : SCtor), (⟨177, 20, 4, true, false⟩ : SCtor), (⟨163, 21, 1, true, false⟩ : SCtor), (⟨179, 21, 4, true, false⟩ : SCtor), (⟨69, 22, 0, false, true⟩ : SCtor), (⟨192, 22, 1, true, true⟩ : SCtor), (⟨208, 22, 4, true, true⟩ : SCtor), (⟨193, 23, 1, true, true⟩ : SCtor), (⟨209, 23, 4, true, true⟩ : SCtor), (⟨224, 24, 1, true, true⟩ : SCtor), (⟨240, 24, 4, true, true⟩ : SCtor), (⟨0, 25, 0, false, true⟩ : SCtor)]
theorem F_polyglotref16_table_ok {N : Nat} {r : List SCtor} (h : F_polyglotref16_table N = some r) : Pure Tryd.prog G1 81 [] (.slice 5 (rowsC SCtor.cells r)) := by
  refine pure_of_ev k81 ?_
  unfold F_polyglotref16_table at h
  have hr := someO h
  subst hr
  exact (frz_own (c := SCtor.cells) (l := ([(⟨64, 1, 0, false, false⟩ : SCtor), (⟨65, 2, 0, false, false⟩ : SCtor), (⟨66, 2, 0, false, false⟩ : SCtor), (⟨86, 2, 1, false, false⟩ : SCtor), (⟨80, 3, 1, false, false⟩ : SCtor), (⟨96, 4, 2, false, false⟩ : SCtor), (⟨67, 5, 0, false, false⟩ : SCtor), (⟨82, 5, 1, false, false⟩ : SCtor), (⟨112, 5, 4, false, false⟩ : SCtor), (⟨68, 6, 0, false, false⟩ : SCtor), (⟨83, 6, 1, false, false⟩ : SCtor), (⟨128, 6, 8, false, false⟩ : SCtor), (⟨81, 7, 1, false, false⟩ : SCtor), (⟨97, 8, 2, false, false⟩ : SCtor), (⟨84, 9, 1, false, false⟩ : SCtor), (⟨113, 9, 4, false, false⟩ : SCtor), (⟨85, 10, 1, false, false⟩ : SCtor), (⟨129, 10, 8, false, false⟩ : SCtor), (⟨114, 11, 4, false, false⟩ : SCtor), (⟨130, 12, 8, false, false⟩ : SCtor), (⟨116, 13, 4, false, false⟩ : SCtor), (⟨132, 14, 8, false, false⟩ : SCtor), (⟨148, 15, 16, false, false⟩ : SCtor), (⟨115, 16, 4, false, false⟩ : SCtor), (⟨131, 17, 8, false, false⟩ : SCtor), (⟨152, 18, 16, false, false⟩ : SCtor), (⟨160, 19, 1, true, false⟩ : SCtor), (⟨176, 19, 4, true, false⟩ : SCtor), (⟨161, 20, 1, true, false⟩ : SCtor), (⟨177, 20, 4, true, false⟩ : SCtor), (⟨163, 21, 1, true, false⟩ : SCtor), (⟨179, 21, 4, true, false⟩ : SCtor), (⟨69, 22, 0, false, true⟩ : SCtor), (⟨192, 22, 1, true, true⟩ : SCtor), (⟨208, 22, 4, true, true⟩ : SCtor), (⟨193, 23, 1, true, true⟩ : SCtor), (⟨209, 23, 4, true, true⟩ : SCtor), (⟨224, 24, 1, true, true⟩ : SCtor), (⟨240, 24, 4, true, true⟩ : SCtor), (⟨0, 25, 0, false, true⟩ : SCtor)] : List SCtor)) (fun _ => rfl) rfl trivial (by simp))
def F_polyglotref16_Of_L0 (N : Nat) (code : Int) (v1 : List SCtor) : Nat → Int → Option (SCtor × Bool)
  | 0, _ => none
  | n + 1, i16 =>
    cond (cmpI .lss i16 ((rowsC SCtor.cells v1).length : Int))
    ((idx v1 i16).bind fun y18 =>
    cond (cmpI .eql y18.Code code)
    ((idx v1 i16).bind fun y21 =>
    some (y21, true))
    (F_polyglotref16_Of_L0 N code v1 n (IntKind.wrap .i64 (i16 + 1))))
    (some ((⟨0, 0, 0, false, false⟩ : SCtor), false))
def F_polyglotref16_Of (N : Nat) (code : Int) : Option (SCtor × Bool) :=
  (F_polyglotref16_table N).bind fun v1 =>
  F_polyglotref16_Of_L0 N code v1 N 0
theorem F_polyglotref16_Of_ok {N : Nat} {code : Int} {r : SCtor × Bool} (h : F_polyglotref16_Of N code = some r) : Pure Tryd.prog G1 36 [.int .i64 code] (.tuple [.agg (SCtor.cells r.1), .bool r.2]) := by
  refine pure_of_ev k36 ?_
  unfold F_polyglotref16_Of at h
  obtain ⟨v1, hv2, h⟩ := bindO h
  refine call_pure (F_polyglotref16_table_ok hv2) .nil ?_
  refine loop_ren (σ := Nat × Int) (fun s => (.p (.int .i64 code) :: .any :: .ptr 0 0 :: .any :: .p (.slice 5 (rowsC SCtor.cells v1)) :: .p (.int .i64 s.2) :: .any :: .any :: .any :: .any :: .any :: .any :: .any :: .any :: .any :: .any :: .any :: .any :: .any :: .any :: .any :: .any :: .any :: .any :: .any :: [] : List AV)) (fun s => (.cells (.p (.int .i64 0) :: .p (.int .i64 0) :: .p (.int .i64 0) :: .p (.bool false) :: .p (.bool false) :: []) :: [] : List AObj)) (fun s => F_polyglotref16_Of_L0 N code v1 s.1 s.2 = some r) (fun s => s.1) (N, 0) h ⟨(fun i => i), ⟨(rE rfl <| rA <| rE rfl <| rA <| rE rfl <| rE rfl <| rA <| rA <| rA <| rA <| rA <| rA <| rA <| rA <| rA <| rA <| rA <| rA <| rA <| rA <| rA <| rA <| rA <| rA <| rA <| rN), (hE rfl <| hN), rfl, rfl, (roE rfl <| roN)⟩⟩ (fun _ _ => Nat.le_of_ble_eq_true rfl) ?_
  rintro ⟨n0, i16⟩ h
  rcases n0 with _ | n0
  · simp [F_polyglotref16_Of_L0] at h
  simp only [F_polyglotref16_Of_L0] at h
  show ev (EP _ _) _ (.p (.int .i64 code) :: .any :: .ptr 0 0 :: .any :: .p (.slice 5 (rowsC SCtor.cells v1)) :: .p (.int .i64 i16) :: .any :: .any :: .any :: .any :: .any :: .any :: .any :: .any :: .any :: .any :: .any :: .any :: .any :: .any :: .any :: .any :: .any :: .any :: .any :: []) (.cells (.p (.int .i64 0) :: .p (.int .i64 0) :: .p (.int .i64 0) :: .p (.bool false) :: .p (.bool false) :: []) :: []) _
  refine ifO h (fun hc17 h => ?_) (fun hc17 h => ?_)
  · obtain ⟨y18, hy19, h⟩ := bindO h
    refine idxP (x := [.int .i64 y18.Code, .int .i64 y18.Kind, .int .i64 y18.Width, .bool y18.Sized, .bool y18.Items]) (idx_rows hy19) ?_
    refine ifO h (fun hc20 h => ?_) (fun hc20 h => ?_)
    · obtain ⟨y21, hy22, h⟩ := bindO h
      refine idxP (x := [.int .i64 y21.Code, .int .i64 y21.Kind, .int .i64 y21.Width, .bool y21.Sized, .bool y21.Items]) (idx_rows hy22) ?_
      have hr := someO h
      subst hr
      exact (Frz.tuple' (.cons (Frz.agg' (.cons (.p _) (.cons (.p _) (.cons (.p _) (.cons (.p _) (.cons (.p _) .nil)))))) (.cons (.p _) .nil)))
    · show Exists _
      exact ⟨(n0, (IntKind.wrap .i64 (i16 + 1))), h, Nat.lt_succ_self _, (fun i => i), ⟨(rE rfl <| rA <| rE rfl <| rA <| rE rfl <| rE rfl <| rA <| rA <| rA <| rA <| rA <| rA <| rA <| rA <| rA <| rA <| rA <| rA <| rA <| rA <| rA <| rA <| rA <| rA <| rA <| rN), (hE rfl <| hN), rfl, rfl, (roE rfl <| roN)⟩⟩
  · have hr := someO h
    subst hr
    exact (Frz.tuple' (.cons (Frz.agg' (.cons (.p _) (.cons (.p _) (.cons (.p _) (.cons (.p _) (.cons (.p _) .nil)))))) (.cons (.p _) .nil)))
def B_polyglotkit_OwnValue_L0 (R_polyglotkit_OwnValue : SValue → Option (SValue)) (N : Nat) (v : SValue) : Nat → Int → (List SValue) → Option (SValue)
  | 0, _, _ => none
  | n + 1, i14, l15 =>
    cond (cmpI .lss i14 ((SValue.rows v.Items).length : Int))
    ((idx v.Items i14).bind fun y17 =>
    (R_polyglotkit_OwnValue y17).bind fun v19 =>
    cond (Nat.ble ((l15.length + 1 + 4096) * 56) 17592186044416) (B_polyglotkit_OwnValue_L0 R_polyglotkit_OwnValue N v n (IntKind.wrap .i64 (i14 + 1)) (l15 ++ [v19])) none)
    (some (⟨v.Kind, v.N', v.Text, l15⟩ : SValue))
def B_polyglotkit_OwnValue (R_polyglotkit_OwnValue : SValue → Option (SValue)) (N : Nat) (v : SValue) : Option (SValue) :=
  B_polyglotkit_OwnValue_L0 R_polyglotkit_OwnValue N v N 0 []
theorem B_polyglotkit_OwnValue_ok {R_polyglotkit_OwnValue : SValue → Option (SValue)} (hR_polyglotkit_OwnValue : ∀ {v : SValue} {r : SValue}, R_polyglotkit_OwnValue v = some r → Pure Tryd.prog G1 38 [.agg (SValue.cells v)] (.agg (SValue.cells r))) {N : Nat} {v : SValue} {r : SValue} (h : B_polyglotkit_OwnValue R_polyglotkit_OwnValue N v = some r) : Pure Tryd.prog G1 38 [.agg (SValue.cells v)] (.agg (SValue.cells r)) := by
  refine pure_of_ev k38 ?_
  unfold B_polyglotkit_OwnValue at h
  refine loop_ren (σ := Nat × Int × (List SValue) × AV × AObj) (fun s => (.any :: .ptr 0 0 :: .ptr 1 0 :: .ptr 2 0 :: .p (.int .i64 s.2.1) :: .any :: .any :: .any :: .any :: .any :: .any :: .any :: .any :: .any :: .any :: .any :: .any :: .any :: .any :: .any :: .any :: .any :: .any :: .any :: .any :: .any :: .any :: .any :: .any :: .any :: .any :: [] : List AV)) (fun s => (.cells (.p (.int .i64 v.Kind) :: .p (.int .u64 v.N') :: .p (.str v.Text) :: .p (.slice 4 (SValue.rows v.Items)) :: []) :: .cells (.p (.int .i64 0) :: .p (.int .u64 0) :: .p (.str []) :: .p .nilSlice :: []) :: .cells (.p (.int .i64 v.Kind) :: .p (.int .u64 v.N') :: .p (.str v.Text) :: s.2.2.2.1 :: []) :: s.2.2.2.2 :: [] : List AObj)) (fun s => B_polyglotkit_OwnValue_L0 R_polyglotkit_OwnValue N v s.1 s.2.1 s.2.2.1 = some r ∧ OwnS 4 3 SValue.cells s.2.2.1 s.2.2.2.1 s.2.2.2.2) (fun s => s.1) (N, 0, [], (.p .nilSlice), .dead) ⟨h, .inl ⟨rfl, rfl, rfl⟩⟩ ⟨(fun i => i), ⟨(rA <| rE rfl <| rE rfl <| rE rfl <| rE rfl <| rA <| rA <| rA <| rA <| rA <| rA <| rA <| rA <| rA <| rA <| rA <| rA <| rA <| rA <| rA <| rA <| rA <| rA <| rA <| rA <| rA <| rA <| rA <| rA <| rA <| rA <| rN), (hE rfl <| hE rfl <| hE rfl <| hD <| hN), rfl, rfl, (roE rfl <| roE rfl <| roE rfl <| roE rfl <| roN)⟩⟩ (fun _ _ => Nat.le_of_ble_eq_true rfl) ?_
  rintro ⟨n0, i14, l15, sl0_3, ob0_3⟩ ⟨h, hO3⟩
  rcases n0 with _ | n0
  · simp [B_polyglotkit_OwnValue_L0] at h
  simp only [B_polyglotkit_OwnValue_L0] at h
  dsimp only at hO3
  rcases hO3 with ⟨rfl, rfl, rfl⟩ | ⟨rfl, rfl⟩
  · show ev (EP _ _) _ (.any :: .ptr 0 0 :: .ptr 1 0 :: .ptr 2 0 :: .p (.int .i64 i14) :: .any :: .any :: .any :: .any :: .any :: .any :: .any :: .any :: .any :: .any :: .any :: .any :: .any :: .any :: .any :: .any :: .any :: .any :: .any :: .any :: .any :: .any :: .any :: .any :: .any :: .any :: []) (.cells (.p (.int .i64 v.Kind) :: .p (.int .u64 v.N') :: .p (.str v.Text) :: .p (.slice 4 (SValue.rows v.Items)) :: []) :: .cells (.p (.int .i64 0) :: .p (.int .u64 0) :: .p (.str []) :: .p .nilSlice :: []) :: .cells (.p (.int .i64 v.Kind) :: .p (.int .u64 v.N') :: .p (.str v.Text) :: .p .nilSlice :: []) :: .dead :: []) _
    refine ifO h (fun hc22 h => ?_) (fun hc22 h => ?_)
    · refine draw_rule ?_
      obtain ⟨y23, hy24, h⟩ := bindO h
      refine idxP (x := [.int .i64 y23.Kind, .int .u64 y23.N', .str y23.Text, .slice 4 (SValue.rows y23.Items)]) (SValue.idx_rows hy24) ?_
      obtain ⟨v25, hv26, h⟩ := bindO h
      refine dcall_pure (hR_polyglotkit_OwnValue hv26) (.cons (Frz.agg' (.cons (.p _) (.cons (.p _) (.cons (.p _) (.cons (.p _) .nil))))) .nil) ?_
      obtain ⟨hk27, h⟩ := chkO h
      show Exists _
      exact ⟨(n0, (IntKind.wrap .i64 (i14 + 1)), ([] ++ [v25]), (.slice 4 3 0 1), (.cells (ownC SValue.cells ([] ++ [v25])))), ⟨h, .inr ⟨(by simp), rfl⟩⟩, Nat.lt_succ_self _, (rho [0, 1, 2, 5]), ⟨(rA <| rE rfl <| rE rfl <| rE rfl <| rE rfl <| rA <| rA <| rA <| rA <| rA <| rA <| rA <| rA <| rA <| rA <| rA <| rA <| rA <| rA <| rA <| rA <| rA <| rA <| rA <| rA <| rA <| rA <| rA <| rA <| rA <| rA <| rN), (hE rfl <| hE rfl <| hE rfl <| hO rfl <| hN), rfl, rfl, (roE rfl <| roE rfl <| roE rfl <| roE (refs_own _ _ _) <| roN)⟩⟩
    · have hr := someO h
      subst hr
      exact (Frz.agg' (.cons (.p _) (.cons (.p _) (.cons (.p _) (.cons (.nil _) .nil)))))
  · show ev (EP _ _) _ (.any :: .ptr 0 0 :: .ptr 1 0 :: .ptr 2 0 :: .p (.int .i64 i14) :: .any :: .any :: .any :: .any :: .any :: .any :: .any :: .any :: .any :: .any :: .any :: .any :: .any :: .any :: .any :: .any :: .any :: .any :: .any :: .any :: .any :: .any :: .any :: .any :: .any :: .any :: []) (.cells (.p (.int .i64 v.Kind) :: .p (.int .u64 v.N') :: .p (.str v.Text) :: .p (.slice 4 (SValue.rows v.Items)) :: []) :: .cells (.p (.int .i64 0) :: .p (.int .u64 0) :: .p (.str []) :: .p .nilSlice :: []) :: .cells (.p (.int .i64 v.Kind) :: .p (.int .u64 v.N') :: .p (.str v.Text) :: .slice 4 3 0 l15.length :: []) :: .cells (ownC SValue.cells l15) :: []) _
    refine ifO h (fun hc16 h => ?_) (fun hc16 h => ?_)
    · refine draw_rule ?_
      obtain ⟨y17, hy18, h⟩ := bindO h
      refine idxP (x := [.int .i64 y17.Kind, .int .u64 y17.N', .str y17.Text, .slice 4 (SValue.rows y17.Items)]) (SValue.idx_rows hy18) ?_
      obtain ⟨v19, hv20, h⟩ := bindO h
      refine dcall_pure (hR_polyglotkit_OwnValue hv20) (.cons (Frz.agg' (.cons (.p _) (.cons (.p _) (.cons (.p _) (.cons (.p _) .nil))))) .nil) ?_
      obtain ⟨hk21, h⟩ := chkO h
      refine chkP (own_chk (c := SValue.cells) (e := 4) (fun _ => rfl) (by simp) hk21) ?_
      refine appOwn (c := SValue.cells) [v19] rfl ?_
      show Exists _
      exact ⟨(n0, (IntKind.wrap .i64 (i14 + 1)), (l15 ++ [v19]), (.slice 4 3 0 (l15.length + 1)), (.cells (ownC SValue.cells (l15 ++ [v19])))), ⟨h, .inr ⟨(by simp), rfl⟩⟩, Nat.lt_succ_self _, (rho [0, 1, 2, 5]), ⟨(rA <| rE rfl <| rE rfl <| rE rfl <| rE rfl <| rA <| rA <| rA <| rA <| rA <| rA <| rA <| rA <| rA <| rA <| rA <| rA <| rA <| rA <| rA <| rA <| rA <| rA <| rA <| rA <| rA <| rA <| rA <| rA <| rA <| rA <| rN), (hE rfl <| hE rfl <| hE rfl <| hO rfl <| hN), rfl, rfl, (roE rfl <| roE rfl <| roE rfl <| roE (refs_own _ _ _) <| roN)⟩⟩
    · have hr := someO h
      subst hr
      exact (Frz.agg' (.cons (.p _) (.cons (.p _) (.cons (.p _) (.cons (SValue.frz_own (l := l15) rfl trivial (by simp)) .nil)))))
def F_polyglotkit_OwnValue : Nat → SValue → Option (SValue)
  | 0 => fun _ => none
  | N + 1 => B_polyglotkit_OwnValue (F_polyglotkit_OwnValue N) N
theorem F_polyglotkit_OwnValue_ok {N : Nat} {v : SValue} {r : SValue} (h : F_polyglotkit_OwnValue N v = some r) : Pure Tryd.prog G1 38 [.agg (SValue.cells v)] (.agg (SValue.cells r)) := by
  induction N generalizing v r with
  | zero => simp [F_polyglotkit_OwnValue] at h
  | succ N ih => exact B_polyglotkit_OwnValue_ok (fun h => ih h) h
def F_polyglotref16_Codes_L0 (N : Nat) (kind : Int) (v1 : List SCtor) : Nat → Int → (List Int) → Option (List Int)
  | 0, _, _ => none
  | n + 1, i18, l19 =>
    cond (cmpI .lss i18 ((rowsC SCtor.cells v1).length : Int))
    ((idx v1 i18).bind fun y21 =>
    cond (cmpI .eql y21.Kind kind)
    ((idx v1 i18).bind fun y24 =>
    cond (Nat.ble ((l19.length + 1 + 4096) * 8) 17592186044416) (F_polyglotref16_Codes_L0 N kind v1 n (IntKind.wrap .i64 (i18 + 1)) (l19 ++ [y24.Code])) none)
    (F_polyglotref16_Codes_L0 N kind v1 n (IntKind.wrap .i64 (i18 + 1)) l19))
    (some l19)
def F_polyglotref16_Codes (N : Nat) (kind : Int) : Option (List Int) :=
  (F_polyglotref16_table N).bind fun v1 =>
  F_polyglotref16_Codes_L0 N kind v1 N 0 []
theorem F_polyglotref16_Codes_ok {N : Nat} {kind : Int} {r : List Int} (h : F_polyglotref16_Codes N kind = some r) : Pure Tryd.prog G1 42 [.int .i64 kind] (.slice 1 (rowsC (cI .i64) r)) := by
  refine pure_of_ev k42 ?_
  unfold F_polyglotref16_Codes at h
  obtain ⟨v1, hv2, h⟩ := bindO h
  refine call_pure (F_polyglotref16_table_ok hv2) .nil ?_
  refine loop_ren (σ := Nat × Int × (List Int) × AV × AObj) (fun s => (.p (.int .i64 kind) :: .any :: .any :: s.2.2.2.1 :: .p (.slice 5 (rowsC SCtor.cells v1)) :: .p (.int .i64 s.2.1) :: .any :: .any :: .any :: .any :: .any :: .any :: .any :: .any :: .any :: .any :: .any :: .any :: .any :: .any :: .any :: .any :: .any :: .any :: .any :: .any :: .any :: .any :: .any :: [] : List AV)) (fun s => (s.2.2.2.2 :: [] : List AObj)) (fun s => F_polyglotref16_Codes_L0 N kind v1 s.1 s.2.1 s.2.2.1 = some r ∧ OwnS 1 0 (cI .i64) s.2.2.1 s.2.2.2.1 s.2.2.2.2) (fun s => s.1) (N, 0, [], (.p .nilSlice), .dead) ⟨h, .inl ⟨rfl, rfl, rfl⟩⟩ ⟨(fun i => i), ⟨(rE rfl <| rA <| rA <| rE rfl <| rE rfl <| rE rfl <| rA <| rA <| rA <| rA <| rA <| rA <| rA <| rA <| rA <| rA <| rA <| rA <| rA <| rA <| rA <| rA <| rA <| rA <| rA <| rA <| rA <| rA <| rA <| rN), (hD <| hN), rfl, rfl, (roE rfl <| roN)⟩⟩ (fun _ _ => Nat.le_of_ble_eq_true rfl) ?_
  rintro ⟨n0, i18, l19, sl0_0, ob0_0⟩ ⟨h, hO0⟩
  rcases n0 with _ | n0
  · simp [F_polyglotref16_Codes_L0] at h
  simp only [F_polyglotref16_Codes_L0] at h
  dsimp only at hO0
  rcases hO0 with ⟨rfl, rfl, rfl⟩ | ⟨rfl, rfl⟩
  · show ev (EP _ _) _ (.p (.int .i64 kind) :: .any :: .any :: .p .nilSlice :: .p (.slice 5 (rowsC SCtor.cells v1)) :: .p (.int .i64 i18) :: .any :: .any :: .any :: .any :: .any :: .any :: .any :: .any :: .any :: .any :: .any :: .any :: .any :: .any :: .any :: .any :: .any :: .any :: .any :: .any :: .any :: .any :: .any :: []) (.dead :: []) _
    refine ifO h (fun hc27 h => ?_) (fun hc27 h => ?_)
    · obtain ⟨y28, hy29, h⟩ := bindO h
      refine idxP (x := [.int .i64 y28.Code, .int .i64 y28.Kind, .int .i64 y28.Width, .bool y28.Sized, .bool y28.Items]) (idx_rows hy29) ?_
      refine ifO h (fun hc30 h => ?_) (fun hc30 h => ?_)
      · obtain ⟨y31, hy32, h⟩ := bindO h
        refine idxP (x := [.int .i64 y31.Code, .int .i64 y31.Kind, .int .i64 y31.Width, .bool y31.Sized, .bool y31.Items]) (idx_rows hy32) ?_
        obtain ⟨hk33, h⟩ := chkO h
        show Exists _
        exact ⟨(n0, (IntKind.wrap .i64 (i18 + 1)), ([] ++ [y31.Code]), (.slice 1 0 0 1), (.cells (ownC (cI .i64) ([] ++ [y31.Code])))), ⟨h, .inr ⟨(by simp), rfl⟩⟩, Nat.lt_succ_self _, (rho [2]), ⟨(rE rfl <| rA <| rA <| rE rfl <| rE rfl <| rE rfl <| rA <| rA <| rA <| rA <| rA <| rA <| rA <| rA <| rA <| rA <| rA <| rA <| rA <| rA <| rA <| rA <| rA <| rA <| rA <| rA <| rA <| rA <| rA <| rN), (hO rfl <| hN), rfl, rfl, (roE (refs_own _ _ _) <| roN)⟩⟩
      · show Exists _
        exact ⟨(n0, (IntKind.wrap .i64 (i18 + 1)), [], (.p .nilSlice), .dead), ⟨h, .inl ⟨rfl, rfl, rfl⟩⟩, Nat.lt_succ_self _, (fun i => i), ⟨(rE rfl <| rA <| rA <| rE rfl <| rE rfl <| rE rfl <| rA <| rA <| rA <| rA <| rA <| rA <| rA <| rA <| rA <| rA <| rA <| rA <| rA <| rA <| rA <| rA <| rA <| rA <| rA <| rA <| rA <| rA <| rA <| rN), (hD <| hN), rfl, rfl, (roE rfl <| roN)⟩⟩
    · have hr := someO h
      subst hr
      exact (.nil _)
  · show ev (EP _ _) _ (.p (.int .i64 kind) :: .any :: .any :: .slice 1 0 0 l19.length :: .p (.slice 5 (rowsC SCtor.cells v1)) :: .p (.int .i64 i18) :: .any :: .any :: .any :: .any :: .any :: .any :: .any :: .any :: .any :: .any :: .any :: .any :: .any :: .any :: .any :: .any :: .any :: .any :: .any :: .any :: .any :: .any :: .any :: []) (.cells (ownC (cI .i64) l19) :: []) _
    refine ifO h (fun hc20 h => ?_) (fun hc20 h => ?_)
    · obtain ⟨y21, hy22, h⟩ := bindO h
      refine idxP (x := [.int .i64 y21.Code, .int .i64 y21.Kind, .int .i64 y21.Width, .bool y21.Sized, .bool y21.Items]) (idx_rows hy22) ?_
      refine ifO h (fun hc23 h => ?_) (fun hc23 h => ?_)
      · obtain ⟨y24, hy25, h⟩ := bindO h
        refine idxP (x := [.int .i64 y24.Code, .int .i64 y24.Kind, .int .i64 y24.Width, .bool y24.Sized, .bool y24.Items]) (idx_rows hy25) ?_
        obtain ⟨hk26, h⟩ := chkO h
        refine chkP (own_chk (c := (cI .i64)) (e := 1) (fun _ => rfl) (by simp) hk26) ?_
        refine appOwn (c := (cI .i64)) [y24.Code] rfl ?_
        show Exists _
        exact ⟨(n0, (IntKind.wrap .i64 (i18 + 1)), (l19 ++ [y24.Code]), (.slice 1 0 0 (l19.length + 1)), (.cells (ownC (cI .i64) (l19 ++ [y24.Code])))), ⟨h, .inr ⟨(by simp), rfl⟩⟩, Nat.lt_succ_self _, (rho [2]), ⟨(rE rfl <| rA <| rA <| rE rfl <| rE rfl <| rE rfl <| rA <| rA <| rA <| rA <| rA <| rA <| rA <| rA <| rA <| rA <| rA <| rA <| rA <| rA <| rA <| rA <| rA <| rA <| rA <| rA <| rA <| rA <| rA <| rN), (hO rfl <| hN), rfl, rfl, (roE (refs_own _ _ _) <| roN)⟩⟩
      · show Exists _
        exact ⟨(n0, (IntKind.wrap .i64 (i18 + 1)), l19, (.slice 1 0 0 l19.length), (.cells (ownC (cI .i64) l19))), ⟨h, .inr ⟨rfl, rfl⟩⟩, Nat.lt_succ_self _, (fun i => i), ⟨(rE rfl <| rA <| rA <| rE rfl <| rE rfl <| rE rfl <| rA <| rA <| rA <| rA <| rA <| rA <| rA <| rA <| rA <| rA <| rA <| rA <| rA <| rA <| rA <| rA <| rA <| rA <| rA <| rA <| rA <| rA <| rA <| rN), (hO rfl <| hN), rfl, rfl, (roE (refs_own _ _ _) <| roN)⟩⟩
    · have hr := someO h
      subst hr
      exact (frz_own (c := (cI .i64)) (l := (l19 : List Int)) (fun _ => rfl) rfl trivial (by simp))
def F_polyglotref16_bits (_N : Nat) (kind : Int) : Option (Int) :=
  cond (cmpI .eql kind 2)
  (some 1)
  (cond (cmpI .eql kind 3)
  (some 8)
  (cond (cmpI .eql kind 4)
  (some 16)
  (cond (cmpI .eql kind 5)
  (some 32)
  (cond (cmpI .eql kind 11)
  (some 32)
  (cond (cmpI .eql kind 13)
  (some 32)
  (cond (cmpI .eql kind 16)
  (some 32)
  (cond (cmpI .eql kind 6)
  (some 64)
  (cond (cmpI .eql kind 12)
  (some 64)
  (cond (cmpI .eql kind 14)
  (some 64)
  (cond (cmpI .eql kind 17)
  (some 64)
  (cond (cmpI .eql kind 10)
  (some 64)
  (cond (cmpI .eql kind 7)
  (some (-8))
  (cond (cmpI .eql kind 8)
  (some (-16))
  (cond (cmpI .eql kind 9)
  (some (-32))
  (some 0)))))))))))))))
theorem F_polyglotref16_bits_ok {N : Nat} {kind : Int} {r : Int} (h : F_polyglotref16_bits N kind = some r) : Pure Tryd.prog G1 112 [.int .i64 kind] (.int .i64 r) := by
  refine pure_of_ev k112 ?_
  unfold F_polyglotref16_bits at h
  refine ifO h (fun hc1 h => ?_) (fun hc1 h => ?_)
  · have hr := someO h
    subst hr
    exact (.p _)
  · refine ifO h (fun hc2 h => ?_) (fun hc2 h => ?_)
    · have hr := someO h
      subst hr
      exact (.p _)
    · refine ifO h (fun hc3 h => ?_) (fun hc3 h => ?_)
      · have hr := someO h
        subst hr
        exact (.p _)
      · refine ifO h (fun hc4 h => ?_) (fun hc4 h => ?_)
        · refine ifT hc4 ?_
          have hr := someO h
          subst hr
          exact (.p _)
        · refine ifO h (fun hc5 h => ?_) (fun hc5 h => ?_)
          · refine ifT hc5 ?_
            have hr := someO h
            subst hr
            exact (.p _)
          · refine ifO h (fun hc6 h => ?_) (fun hc6 h => ?_)
            · refine ifT hc6 ?_
              have hr := someO h
              subst hr
              exact (.p _)
            · refine ifO h (fun hc7 h => ?_) (fun hc7 h => ?_)
              · have hr := someO h
                subst hr
                exact (.p _)
              · refine ifO h (fun hc8 h => ?_) (fun hc8 h => ?_)
                · refine ifT hc8 ?_
                  have hr := someO h
                  subst hr
                  exact (.p _)
                · refine ifO h (fun hc9 h => ?_) (fun hc9 h => ?_)
                  · refine ifT hc9 ?_
                    have hr := someO h
                    subst hr
                    exact (.p _)
                  · refine ifO h (fun hc10 h => ?_) (fun hc10 h => ?_)
                    · refine ifT hc10 ?_
                      have hr := someO h
                      subst hr
                      exact (.p _)
                    · refine ifO h (fun hc11 h => ?_) (fun hc11 h => ?_)
                      · refine ifT hc11 ?_
                        have hr := someO h
                        subst hr
                        exact (.p _)
                      · refine ifO h (fun hc12 h => ?_) (fun hc12 h => ?_)
                        · have hr := someO h
                          subst hr
                          exact (.p _)
                        · refine ifO h (fun hc13 h => ?_) (fun hc13 h => ?_)
                          · have hr := someO h
                            subst hr
                            exact (.p _)
                          · refine ifO h (fun hc14 h => ?_) (fun hc14 h => ?_)
                            · have hr := someO h
                              subst hr
                              exact (.p _)
                            · refine ifO h (fun hc15 h => ?_) (fun hc15 h => ?_)
                              · have hr := someO h
                                subst hr
                                exact (.p _)
                              · have hr := someO h
                                subst hr
                                exact (.p _)
def F_polyglotref16_char (_N : Nat) (n_0 : Int) : Option (Bool) :=
  cond (cmpI .leq n_0 1114111)
  (cond (cmpI .lss n_0 55296)
  (some true)
  (some (cmpI .gtr n_0 57343)))
  (some false)
theorem F_polyglotref16_char_ok {N : Nat} {n_0 : Int} {r : Bool} (h : F_polyglotref16_char N n_0 = some r) : Pure Tryd.prog G1 113 [.int .u64 n_0] (.bool r) := by
  refine pure_of_ev k113 ?_
  unfold F_polyglotref16_char at h
  refine ifO h (fun hc1 h => ?_) (fun hc1 h => ?_)
  · refine ifO h (fun hc2 h => ?_) (fun hc2 h => ?_)
    · have hr := someO h
      subst hr
      exact (.p _)
    · have hr := someO h
      subst hr
      exact (.p _)
  · have hr := someO h
    subst hr
    exact (.p _)
def F_polyglotref16_signed (_N : Nat) (n_0 : Int) (bits : Int) : Option (Bool) :=
  cond (decide (0 ≤ (IntKind.wrap .u64 (bits - 1)))) (cond (cmpI .lss n_0 (shlI .u64 1 (IntKind.wrap .u64 (bits - 1))))
  (some true)
  (some (cmpI .geq n_0 (IntKind.wrap .u64 (0 - (shlI .u64 1 (IntKind.wrap .u64 (bits - 1)))))))) none
theorem F_polyglotref16_signed_ok {N : Nat} {n_0 : Int} {bits : Int} {r : Bool} (h : F_polyglotref16_signed N n_0 bits = some r) : Pure Tryd.prog G1 88 [.int .u64 n_0, .int .u64 bits] (.bool r) := by
  refine pure_of_ev k88 ?_
  unfold F_polyglotref16_signed at h
  obtain ⟨hk1, h⟩ := chkO h
  refine chkP hk1 ?_
  refine ifO h (fun hc2 h => ?_) (fun hc2 h => ?_)
  · have hr := someO h
    subst hr
    exact (.p _)
  · have hr := someO h
    subst hr
    exact (.p _)
def F_polyglotref16_ranged (N : Nat) (v : SValue) : Option (Bool) :=
  (F_polyglotref16_bits N v.Kind).bind fun v1 =>
  cond (cmpI .eql v.Kind 16)
  ((F_polyglotref16_char N v.N').bind fun v4 =>
  some v4)
  (cond (cmpI .eql v1 0)
  (some (cmpI .eql v.N' 0))
  (cond (cmpI .lss v1 0)
  ((F_polyglotref16_signed N v.N' (IntKind.wrap .u64 (IntKind.wrap .i64 (0 - v1)))).bind fun v8 =>
  some v8)
  (cond (cmpI .eql v1 64)
  (some true)
  (cond (decide (0 ≤ (IntKind.wrap .u64 v1))) (some (cmpI .lss v.N' (shlI .u64 1 (IntKind.wrap .u64 v1)))) none))))
theorem F_polyglotref16_ranged_ok {N : Nat} {v : SValue} {r : Bool} (h : F_polyglotref16_ranged N v = some r) : Pure Tryd.prog G1 84 [.agg (SValue.cells v)] (.bool r) := by
  refine pure_of_ev k84 ?_
  unfold F_polyglotref16_ranged at h
  obtain ⟨v1, hv2, h⟩ := bindO h
  refine call_pure (F_polyglotref16_bits_ok hv2) (.cons (.p _) .nil) ?_
  refine ifO h (fun hc3 h => ?_) (fun hc3 h => ?_)
  · obtain ⟨v4, hv5, h⟩ := bindO h
    refine call_pure (F_polyglotref16_char_ok hv5) (.cons (.p _) .nil) ?_
    have hr := someO h
    subst hr
    exact (.p _)
  · refine ifO h (fun hc6 h => ?_) (fun hc6 h => ?_)
    · have hr := someO h
      subst hr
      exact (.p _)
    · refine ifO h (fun hc7 h => ?_) (fun hc7 h => ?_)
      · obtain ⟨v8, hv9, h⟩ := bindO h
        refine call_pure (F_polyglotref16_signed_ok hv9) (.cons (.p _) (.cons (.p _) .nil)) ?_
        have hr := someO h
        subst hr
        exact (.p _)
      · refine ifO h (fun hc10 h => ?_) (fun hc10 h => ?_)
        · have hr := someO h
          subst hr
          exact (.p _)
        · obtain ⟨hk11, h⟩ := chkO h
          refine chkP hk11 ?_
          have hr := someO h
          subst hr
          exact (.p _)
def F_polyglotref16_texts (_N : Nat) (kind : Int) : Option (Bool) :=
  cond (cmpI .eql kind 15)
  (some true)
  (cond (cmpI .geq kind 18)
  (some (cmpI .leq kind 21))
  (some false))
theorem F_polyglotref16_texts_ok {N : Nat} {kind : Int} {r : Bool} (h : F_polyglotref16_texts N kind = some r) : Pure Tryd.prog G1 85 [.int .i64 kind] (.bool r) := by
  refine pure_of_ev k85 ?_
  unfold F_polyglotref16_texts at h
  refine ifO h (fun hc1 h => ?_) (fun hc1 h => ?_)
  · have hr := someO h
    subst hr
    exact (.p _)
  · refine ifO h (fun hc2 h => ?_) (fun hc2 h => ?_)
    · have hr := someO h
      subst hr
      exact (.p _)
    · have hr := someO h
      subst hr
      exact (.p _)
def F_polyglotref16_after (_N : Nat) (s_0 : List UInt8) (i : Int) (low : Int) (high : Int) : Option (Bool) :=
  cond (cmpI .lss i (s_0.length : Int))
  ((idx s_0 i).bind fun b2 =>
  cond (cmpI .geq (b2.toNat : Int) low)
  ((idx s_0 i).bind fun b5 =>
  some (cmpI .leq (b5.toNat : Int) high))
  (some false))
  (some false)
theorem F_polyglotref16_after_ok {N : Nat} {s_0 : List UInt8} {i : Int} {low : Int} {high : Int} {r : Bool} (h : F_polyglotref16_after N s_0 i low high = some r) : Pure Tryd.prog G1 127 [.str s_0, .int .i64 i, .int .u8 low, .int .u8 high] (.bool r) := by
  refine pure_of_ev k127 ?_
  unfold F_polyglotref16_after at h
  refine ifO h (fun hc1 h => ?_) (fun hc1 h => ?_)
  · obtain ⟨b2, hy3, h⟩ := bindO h
    refine idxP (x := b2) hy3 ?_
    refine ifO h (fun hc4 h => ?_) (fun hc4 h => ?_)
    · obtain ⟨b5, hy6, h⟩ := bindO h
      refine idxP (x := b5) hy6 ?_
      have hr := someO h
      subst hr
      exact (.p _)
    · have hr := someO h
      subst hr
      exact (.p _)
  · have hr := someO h
    subst hr
    exact (.p _)
end
end
end Go.Av
