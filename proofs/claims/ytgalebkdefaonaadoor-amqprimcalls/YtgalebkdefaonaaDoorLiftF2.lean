/- The law. Part of a proof of a given statement: for every input the law returns true and the arguments read as before; no condition beyond the given row. -/
import Derived.Test.YtgalebkdefaonaaDoorLiftF1
namespace Go.Av
noncomputable section
open Go.Proofs
set_option maxRecDepth 100000
set_option maxHeartbeats 4000000
attribute [local irreducible] dcallP CallsA LoopA DrawA cmpI cmpS
section
def F_polyglotref16_step_J4 (_N : Nat) (s139 : Bool) : Option (Int) :=
  cond s139
  (some 4)
  (some 0)
def F_polyglotref16_step_J6 (N : Nat) (k4 : Bool → Option (Int)) (s_0 : List UInt8) (i : Int) (b1 : UInt8) (s170 : Bool) : Option (Int) :=
  cond s170
  (k4 s170)
  (cond (cmpI .eql (b1.toNat : Int) 244)
  ((F_polyglotref16_after N s_0 (IntKind.wrap .i64 (i + 1)) 128 143).bind fun v183 =>
  cond v183
  ((F_polyglotref16_after N s_0 (IntKind.wrap .i64 (i + 2)) 128 191).bind fun v186 =>
  cond v186
  ((F_polyglotref16_after N s_0 (IntKind.wrap .i64 (i + 3)) 128 191).bind fun v189 =>
  k4 v189)
  (k4 false))
  (k4 false))
  (k4 false))
def F_polyglotref16_step_J5 (N : Nat) (k4 : Bool → Option (Int)) (s_0 : List UInt8) (i : Int) (b1 : UInt8) (s149 : Bool) : Option (Int) :=
  cond s149
  (k4 s149)
  (cond (cmpI .geq (b1.toNat : Int) 241)
  (cond (cmpI .leq (b1.toNat : Int) 243)
  ((F_polyglotref16_after N s_0 (IntKind.wrap .i64 (i + 1)) 128 191).bind fun v173 =>
  cond v173
  ((F_polyglotref16_after N s_0 (IntKind.wrap .i64 (i + 2)) 128 191).bind fun v176 =>
  cond v176
  ((F_polyglotref16_after N s_0 (IntKind.wrap .i64 (i + 3)) 128 191).bind fun v179 =>
  F_polyglotref16_step_J6 N k4 s_0 i b1 v179)
  (F_polyglotref16_step_J6 N k4 s_0 i b1 false))
  (F_polyglotref16_step_J6 N k4 s_0 i b1 false))
  (F_polyglotref16_step_J6 N k4 s_0 i b1 false))
  (F_polyglotref16_step_J6 N k4 s_0 i b1 false))
def F_polyglotref16_step_J1 (N : Nat) (s_0 : List UInt8) (i : Int) (b1 : UInt8) (s50 : Bool) : Option (Int) :=
  cond s50
  (some 3)
  (cond (cmpI .eql (b1.toNat : Int) 240)
  ((F_polyglotref16_after N s_0 (IntKind.wrap .i64 (i + 1)) 144 191).bind fun v151 =>
  cond v151
  ((F_polyglotref16_after N s_0 (IntKind.wrap .i64 (i + 2)) 128 191).bind fun v154 =>
  cond v154
  ((F_polyglotref16_after N s_0 (IntKind.wrap .i64 (i + 3)) 128 191).bind fun v157 =>
  F_polyglotref16_step_J5 N (F_polyglotref16_step_J4 N) s_0 i b1 v157)
  (F_polyglotref16_step_J5 N (F_polyglotref16_step_J4 N) s_0 i b1 false))
  (F_polyglotref16_step_J5 N (F_polyglotref16_step_J4 N) s_0 i b1 false))
  (F_polyglotref16_step_J5 N (F_polyglotref16_step_J4 N) s_0 i b1 false))
def F_polyglotref16_step_J3 (N : Nat) (k1 : Bool → Option (Int)) (s_0 : List UInt8) (i : Int) (b1 : UInt8) (s71 : Bool) : Option (Int) :=
  cond s71
  (k1 s71)
  (cond (cmpI .geq (b1.toNat : Int) 225)
  (cond (cmpI .leq (b1.toNat : Int) 239)
  (cond (cmpI .neq (b1.toNat : Int) 237)
  ((F_polyglotref16_after N s_0 (IntKind.wrap .i64 (i + 1)) 128 191).bind fun v82 =>
  cond v82
  ((F_polyglotref16_after N s_0 (IntKind.wrap .i64 (i + 2)) 128 191).bind fun v85 =>
  k1 v85)
  (k1 false))
  (k1 false))
  (k1 false))
  (k1 false))
def F_polyglotref16_step_J2 (N : Nat) (k1 : Bool → Option (Int)) (s_0 : List UInt8) (i : Int) (b1 : UInt8) (s57 : Bool) : Option (Int) :=
  cond s57
  (k1 s57)
  (cond (cmpI .eql (b1.toNat : Int) 237)
  ((F_polyglotref16_after N s_0 (IntKind.wrap .i64 (i + 1)) 128 159).bind fun v73 =>
  cond v73
  ((F_polyglotref16_after N s_0 (IntKind.wrap .i64 (i + 2)) 128 191).bind fun v76 =>
  F_polyglotref16_step_J3 N k1 s_0 i b1 v76)
  (F_polyglotref16_step_J3 N k1 s_0 i b1 false))
  (F_polyglotref16_step_J3 N k1 s_0 i b1 false))
def F_polyglotref16_step_J0 (N : Nat) (s_0 : List UInt8) (i : Int) (b1 : UInt8) (s8 : Bool) : Option (Int) :=
  cond s8
  (some 2)
  (cond (cmpI .eql (b1.toNat : Int) 224)
  ((F_polyglotref16_after N s_0 (IntKind.wrap .i64 (i + 1)) 160 191).bind fun v59 =>
  cond v59
  ((F_polyglotref16_after N s_0 (IntKind.wrap .i64 (i + 2)) 128 191).bind fun v62 =>
  F_polyglotref16_step_J2 N (F_polyglotref16_step_J1 N s_0 i b1) s_0 i b1 v62)
  (F_polyglotref16_step_J2 N (F_polyglotref16_step_J1 N s_0 i b1) s_0 i b1 false))
  (F_polyglotref16_step_J2 N (F_polyglotref16_step_J1 N s_0 i b1) s_0 i b1 false))
def F_polyglotref16_step (N : Nat) (s_0 : List UInt8) (i : Int) : Option (Int) :=
  (idx s_0 i).bind fun b1 =>
  cond (cmpI .lss (b1.toNat : Int) 128)
  (some 1)
  (cond (cmpI .geq (b1.toNat : Int) 194)
  (cond (cmpI .leq (b1.toNat : Int) 223)
  ((F_polyglotref16_after N s_0 (IntKind.wrap .i64 (i + 1)) 128 191).bind fun v11 =>
  F_polyglotref16_step_J0 N s_0 i b1 v11)
  (F_polyglotref16_step_J0 N s_0 i b1 false))
  (F_polyglotref16_step_J0 N s_0 i b1 false))
theorem F_polyglotref16_step_ok {N : Nat} {s_0 : List UInt8} {i : Int} {r : Int} (h : F_polyglotref16_step N s_0 i = some r) : Pure Tryd.prog G1 114 [.str s_0, .int .i64 i] (.int .i64 r) := by
  refine pure_of_ev k114 ?_
  unfold F_polyglotref16_step at h
  obtain ⟨b1, hy2, h⟩ := bindO h
  refine idxP (x := b1) hy2 ?_
  refine ifO h (fun hc3 h => ?_) (fun hc3 h => ?_)
  · have hr := someO h
    subst hr
    exact (.p _)
  · refine join_rule (σ := Bool) (fun s => (.p (.str s_0) :: .p (.int .i64 i) :: .any :: .any :: .any :: .p (.int .u8 (b1.toNat : Int)) :: .any :: .any :: .any :: .any :: .any :: .any :: .p (.bool s) :: .any :: .any :: .any :: .any :: .any :: .any :: .any :: .any :: .any :: .any :: .any :: .any :: .any :: .any :: .any :: .any :: .any :: .any :: .any :: .any :: .any :: .any :: .any :: .any :: .any :: .any :: .any :: .any :: .any :: .any :: .any :: .any :: .any :: .any :: .any :: .any :: .any :: .any :: .any :: .any :: .any :: .any :: .any :: .any :: .any :: .any :: .any :: .any :: .any :: .any :: .any :: .any :: .any :: .any :: .any :: .any :: .any :: .any :: .any :: .any :: .any :: .any :: .any :: .any :: .any :: .any :: .any :: .any :: .any :: .any :: .any :: .any :: .any :: .any :: .any :: .any :: .any :: .any :: .any :: .any :: .any :: .any :: .any :: .any :: .any :: .any :: .any :: .any :: .any :: .any :: .any :: .any :: .any :: .any :: .any :: .any :: .any :: .any :: .any :: .any :: .any :: .any :: .any :: .any :: .any :: .any :: .any :: .any :: .any :: .any :: .any :: .any :: .any :: .any :: .any :: .any :: .any :: .any :: .any :: .any :: .any :: .any :: .any :: .any :: .any :: .any :: .any :: .any :: [] : List AV)) (fun s => ([] : List AObj)) (fun s => F_polyglotref16_step_J0 N s_0 i b1 s = some r) (fun _ _ => Nat.le_of_ble_eq_true rfl) ?_ ?_
    · refine ifO h (fun hc9 h => ?_) (fun hc9 h => ?_)
      · refine ifO h (fun hc10 h => ?_) (fun hc10 h => ?_)
        · obtain ⟨v11, hv12, h⟩ := bindO h
          refine call_pure (F_polyglotref16_after_ok hv12) (.cons (.p _) (.cons (.p _) (.cons (.p _) (.cons (.p _) .nil)))) ?_
          show Exists _
          exact ⟨(v11), h, (fun i => i), ⟨(rE rfl <| rE rfl <| rA <| rA <| rA <| rE rfl <| rA <| rA <| rA <| rA <| rA <| rA <| rE rfl <| rA <| rA <| rA <| rA <| rA <| rA <| rA <| rA <| rA <| rA <| rA <| rA <| rA <| rA <| rA <| rA <| rA <| rA <| rA <| rA <| rA <| rA <| rA <| rA <| rA <| rA <| rA <| rA <| rA <| rA <| rA <| rA <| rA <| rA <| rA <| rA <| rA <| rA <| rA <| rA <| rA <| rA <| rA <| rA <| rA <| rA <| rA <| rA <| rA <| rA <| rA <| rA <| rA <| rA <| rA <| rA <| rA <| rA <| rA <| rA <| rA <| rA <| rA <| rA <| rA <| rA <| rA <| rA <| rA <| rA <| rA <| rA <| rA <| rA <| rA <| rA <| rA <| rA <| rA <| rA <| rA <| rA <| rA <| rA <| rA <| rA <| rA <| rA <| rA <| rA <| rA <| rA <| rA <| rA <| rA <| rA <| rA <| rA <| rA <| rA <| rA <| rA <| rA <| rA <| rA <| rA <| rA <| rA <| rA <| rA <| rA <| rA <| rA <| rA <| rA <| rA <| rA <| rA <| rA <| rA <| rA <| rA <| rA <| rA <| rA <| rA <| rA <| rA <| rN), (hN), rfl, rfl, (roN)⟩⟩
        · show Exists _
          exact ⟨(false), h, (fun i => i), ⟨(rE rfl <| rE rfl <| rA <| rA <| rA <| rE rfl <| rA <| rA <| rA <| rA <| rA <| rA <| rE rfl <| rA <| rA <| rA <| rA <| rA <| rA <| rA <| rA <| rA <| rA <| rA <| rA <| rA <| rA <| rA <| rA <| rA <| rA <| rA <| rA <| rA <| rA <| rA <| rA <| rA <| rA <| rA <| rA <| rA <| rA <| rA <| rA <| rA <| rA <| rA <| rA <| rA <| rA <| rA <| rA <| rA <| rA <| rA <| rA <| rA <| rA <| rA <| rA <| rA <| rA <| rA <| rA <| rA <| rA <| rA <| rA <| rA <| rA <| rA <| rA <| rA <| rA <| rA <| rA <| rA <| rA <| rA <| rA <| rA <| rA <| rA <| rA <| rA <| rA <| rA <| rA <| rA <| rA <| rA <| rA <| rA <| rA <| rA <| rA <| rA <| rA <| rA <| rA <| rA <| rA <| rA <| rA <| rA <| rA <| rA <| rA <| rA <| rA <| rA <| rA <| rA <| rA <| rA <| rA <| rA <| rA <| rA <| rA <| rA <| rA <| rA <| rA <| rA <| rA <| rA <| rA <| rA <| rA <| rA <| rA <| rA <| rA <| rA <| rA <| rA <| rA <| rA <| rA <| rN), (hN), rfl, rfl, (roN)⟩⟩
      · show Exists _
        exact ⟨(false), h, (fun i => i), ⟨(rE rfl <| rE rfl <| rA <| rA <| rA <| rE rfl <| rA <| rA <| rA <| rA <| rA <| rA <| rE rfl <| rA <| rA <| rA <| rA <| rA <| rA <| rA <| rA <| rA <| rA <| rA <| rA <| rA <| rA <| rA <| rA <| rA <| rA <| rA <| rA <| rA <| rA <| rA <| rA <| rA <| rA <| rA <| rA <| rA <| rA <| rA <| rA <| rA <| rA <| rA <| rA <| rA <| rA <| rA <| rA <| rA <| rA <| rA <| rA <| rA <| rA <| rA <| rA <| rA <| rA <| rA <| rA <| rA <| rA <| rA <| rA <| rA <| rA <| rA <| rA <| rA <| rA <| rA <| rA <| rA <| rA <| rA <| rA <| rA <| rA <| rA <| rA <| rA <| rA <| rA <| rA <| rA <| rA <| rA <| rA <| rA <| rA <| rA <| rA <| rA <| rA <| rA <| rA <| rA <| rA <| rA <| rA <| rA <| rA <| rA <| rA <| rA <| rA <| rA <| rA <| rA <| rA <| rA <| rA <| rA <| rA <| rA <| rA <| rA <| rA <| rA <| rA <| rA <| rA <| rA <| rA <| rA <| rA <| rA <| rA <| rA <| rA <| rA <| rA <| rA <| rA <| rA <| rA <| rN), (hN), rfl, rfl, (roN)⟩⟩
    rintro s8 h
    dsimp only [F_polyglotref16_step_J0] at h
    show ev (EP _ _) _ (.p (.str s_0) :: .p (.int .i64 i) :: .any :: .any :: .any :: .p (.int .u8 (b1.toNat : Int)) :: .any :: .any :: .any :: .any :: .any :: .any :: .p (.bool s8) :: .any :: .any :: .any :: .any :: .any :: .any :: .any :: .any :: .any :: .any :: .any :: .any :: .any :: .any :: .any :: .any :: .any :: .any :: .any :: .any :: .any :: .any :: .any :: .any :: .any :: .any :: .any :: .any :: .any :: .any :: .any :: .any :: .any :: .any :: .any :: .any :: .any :: .any :: .any :: .any :: .any :: .any :: .any :: .any :: .any :: .any :: .any :: .any :: .any :: .any :: .any :: .any :: .any :: .any :: .any :: .any :: .any :: .any :: .any :: .any :: .any :: .any :: .any :: .any :: .any :: .any :: .any :: .any :: .any :: .any :: .any :: .any :: .any :: .any :: .any :: .any :: .any :: .any :: .any :: .any :: .any :: .any :: .any :: .any :: .any :: .any :: .any :: .any :: .any :: .any :: .any :: .any :: .any :: .any :: .any :: .any :: .any :: .any :: .any :: .any :: .any :: .any :: .any :: .any :: .any :: .any :: .any :: .any :: .any :: .any :: .any :: .any :: .any :: .any :: .any :: .any :: .any :: .any :: .any :: .any :: .any :: .any :: .any :: .any :: .any :: .any :: .any :: .any :: []) ([]) _
    refine ifO h (fun hc13 h => ?_) (fun hc13 h => ?_)
    · have hr := someO h
      subst hr
      exact (.p _)
    · refine join_rule (σ := Bool) (fun s => (.p (.str s_0) :: .p (.int .i64 i) :: .any :: .any :: .any :: .p (.int .u8 (b1.toNat : Int)) :: .any :: .any :: .any :: .any :: .any :: .any :: .any :: .any :: .any :: .any :: .any :: .any :: .any :: .any :: .any :: .any :: .any :: .any :: .any :: .p (.bool s) :: .any :: .any :: .any :: .any :: .any :: .any :: .any :: .any :: .any :: .any :: .any :: .any :: .any :: .any :: .any :: .any :: .any :: .any :: .any :: .any :: .any :: .any :: .any :: .any :: .any :: .any :: .any :: .any :: .any :: .any :: .any :: .any :: .any :: .any :: .any :: .any :: .any :: .any :: .any :: .any :: .any :: .any :: .any :: .any :: .any :: .any :: .any :: .any :: .any :: .any :: .any :: .any :: .any :: .any :: .any :: .any :: .any :: .any :: .any :: .any :: .any :: .any :: .any :: .any :: .any :: .any :: .any :: .any :: .any :: .any :: .any :: .any :: .any :: .any :: .any :: .any :: .any :: .any :: .any :: .any :: .any :: .any :: .any :: .any :: .any :: .any :: .any :: .any :: .any :: .any :: .any :: .any :: .any :: .any :: .any :: .any :: .any :: .any :: .any :: .any :: .any :: .any :: .any :: .any :: .any :: .any :: .any :: .any :: .any :: .any :: .any :: .any :: .any :: .any :: .any :: [] : List AV)) (fun s => ([] : List AObj)) (fun s => F_polyglotref16_step_J1 N s_0 i b1 s = some r) (fun _ _ => Nat.le_of_ble_eq_true rfl) ?_ ?_
      · refine join_rule (σ := Bool) (fun s => (.p (.str s_0) :: .p (.int .i64 i) :: .any :: .any :: .any :: .p (.int .u8 (b1.toNat : Int)) :: .any :: .any :: .any :: .any :: .any :: .any :: .any :: .any :: .any :: .any :: .any :: .any :: .any :: .any :: .any :: .any :: .any :: .any :: .any :: .p (.bool s) :: .any :: .any :: .any :: .any :: .any :: .any :: .any :: .any :: .any :: .any :: .any :: .any :: .any :: .any :: .any :: .any :: .any :: .any :: .any :: .any :: .any :: .any :: .any :: .any :: .any :: .any :: .any :: .any :: .any :: .any :: .any :: .any :: .any :: .any :: .any :: .any :: .any :: .any :: .any :: .any :: .any :: .any :: .any :: .any :: .any :: .any :: .any :: .any :: .any :: .any :: .any :: .any :: .any :: .any :: .any :: .any :: .any :: .any :: .any :: .any :: .any :: .any :: .any :: .any :: .any :: .any :: .any :: .any :: .any :: .any :: .any :: .any :: .any :: .any :: .any :: .any :: .any :: .any :: .any :: .any :: .any :: .any :: .any :: .any :: .any :: .any :: .any :: .any :: .any :: .any :: .any :: .any :: .any :: .any :: .any :: .any :: .any :: .any :: .any :: .any :: .any :: .any :: .any :: .any :: .any :: .any :: .any :: .any :: .any :: .any :: .any :: .any :: .any :: .any :: .any :: [] : List AV)) (fun s => ([] : List AObj)) (fun s => F_polyglotref16_step_J2 N (F_polyglotref16_step_J1 N s_0 i b1) s_0 i b1 s = some r) (fun _ _ => Nat.le_of_ble_eq_true rfl) ?_ ?_
        · refine ifO h (fun hc58 h => ?_) (fun hc58 h => ?_)
          · obtain ⟨v59, hv60, h⟩ := bindO h
            refine call_pure (F_polyglotref16_after_ok hv60) (.cons (.p _) (.cons (.p _) (.cons (.p _) (.cons (.p _) .nil)))) ?_
            refine ifO h (fun hc61 h => ?_) (fun hc61 h => ?_)
            · obtain ⟨v62, hv63, h⟩ := bindO h
              refine call_pure (F_polyglotref16_after_ok hv63) (.cons (.p _) (.cons (.p _) (.cons (.p _) (.cons (.p _) .nil)))) ?_
              show Exists _
              exact ⟨(v62), h, (fun i => i), ⟨(rE rfl <| rE rfl <| rA <| rA <| rA <| rE rfl <| rA <| rA <| rA <| rA <| rA <| rA <| rA <| rA <| rA <| rA <| rA <| rA <| rA <| rA <| rA <| rA <| rA <| rA <| rA <| rE rfl <| rA <| rA <| rA <| rA <| rA <| rA <| rA <| rA <| rA <| rA <| rA <| rA <| rA <| rA <| rA <| rA <| rA <| rA <| rA <| rA <| rA <| rA <| rA <| rA <| rA <| rA <| rA <| rA <| rA <| rA <| rA <| rA <| rA <| rA <| rA <| rA <| rA <| rA <| rA <| rA <| rA <| rA <| rA <| rA <| rA <| rA <| rA <| rA <| rA <| rA <| rA <| rA <| rA <| rA <| rA <| rA <| rA <| rA <| rA <| rA <| rA <| rA <| rA <| rA <| rA <| rA <| rA <| rA <| rA <| rA <| rA <| rA <| rA <| rA <| rA <| rA <| rA <| rA <| rA <| rA <| rA <| rA <| rA <| rA <| rA <| rA <| rA <| rA <| rA <| rA <| rA <| rA <| rA <| rA <| rA <| rA <| rA <| rA <| rA <| rA <| rA <| rA <| rA <| rA <| rA <| rA <| rA <| rA <| rA <| rA <| rA <| rA <| rA <| rA <| rA <| rN), (hN), rfl, rfl, (roN)⟩⟩
            · show Exists _
              exact ⟨(false), h, (fun i => i), ⟨(rE rfl <| rE rfl <| rA <| rA <| rA <| rE rfl <| rA <| rA <| rA <| rA <| rA <| rA <| rA <| rA <| rA <| rA <| rA <| rA <| rA <| rA <| rA <| rA <| rA <| rA <| rA <| rE rfl <| rA <| rA <| rA <| rA <| rA <| rA <| rA <| rA <| rA <| rA <| rA <| rA <| rA <| rA <| rA <| rA <| rA <| rA <| rA <| rA <| rA <| rA <| rA <| rA <| rA <| rA <| rA <| rA <| rA <| rA <| rA <| rA <| rA <| rA <| rA <| rA <| rA <| rA <| rA <| rA <| rA <| rA <| rA <| rA <| rA <| rA <| rA <| rA <| rA <| rA <| rA <| rA <| rA <| rA <| rA <| rA <| rA <| rA <| rA <| rA <| rA <| rA <| rA <| rA <| rA <| rA <| rA <| rA <| rA <| rA <| rA <| rA <| rA <| rA <| rA <| rA <| rA <| rA <| rA <| rA <| rA <| rA <| rA <| rA <| rA <| rA <| rA <| rA <| rA <| rA <| rA <| rA <| rA <| rA <| rA <| rA <| rA <| rA <| rA <| rA <| rA <| rA <| rA <| rA <| rA <| rA <| rA <| rA <| rA <| rA <| rA <| rA <| rA <| rA <| rA <| rN), (hN), rfl, rfl, (roN)⟩⟩
          · show Exists _
            exact ⟨(false), h, (fun i => i), ⟨(rE rfl <| rE rfl <| rA <| rA <| rA <| rE rfl <| rA <| rA <| rA <| rA <| rA <| rA <| rA <| rA <| rA <| rA <| rA <| rA <| rA <| rA <| rA <| rA <| rA <| rA <| rA <| rE rfl <| rA <| rA <| rA <| rA <| rA <| rA <| rA <| rA <| rA <| rA <| rA <| rA <| rA <| rA <| rA <| rA <| rA <| rA <| rA <| rA <| rA <| rA <| rA <| rA <| rA <| rA <| rA <| rA <| rA <| rA <| rA <| rA <| rA <| rA <| rA <| rA <| rA <| rA <| rA <| rA <| rA <| rA <| rA <| rA <| rA <| rA <| rA <| rA <| rA <| rA <| rA <| rA <| rA <| rA <| rA <| rA <| rA <| rA <| rA <| rA <| rA <| rA <| rA <| rA <| rA <| rA <| rA <| rA <| rA <| rA <| rA <| rA <| rA <| rA <| rA <| rA <| rA <| rA <| rA <| rA <| rA <| rA <| rA <| rA <| rA <| rA <| rA <| rA <| rA <| rA <| rA <| rA <| rA <| rA <| rA <| rA <| rA <| rA <| rA <| rA <| rA <| rA <| rA <| rA <| rA <| rA <| rA <| rA <| rA <| rA <| rA <| rA <| rA <| rA <| rA <| rN), (hN), rfl, rfl, (roN)⟩⟩
        rintro s57 h
        dsimp only [F_polyglotref16_step_J2] at h
        show ev (EP _ _) _ (.p (.str s_0) :: .p (.int .i64 i) :: .any :: .any :: .any :: .p (.int .u8 (b1.toNat : Int)) :: .any :: .any :: .any :: .any :: .any :: .any :: .any :: .any :: .any :: .any :: .any :: .any :: .any :: .any :: .any :: .any :: .any :: .any :: .any :: .p (.bool s57) :: .any :: .any :: .any :: .any :: .any :: .any :: .any :: .any :: .any :: .any :: .any :: .any :: .any :: .any :: .any :: .any :: .any :: .any :: .any :: .any :: .any :: .any :: .any :: .any :: .any :: .any :: .any :: .any :: .any :: .any :: .any :: .any :: .any :: .any :: .any :: .any :: .any :: .any :: .any :: .any :: .any :: .any :: .any :: .any :: .any :: .any :: .any :: .any :: .any :: .any :: .any :: .any :: .any :: .any :: .any :: .any :: .any :: .any :: .any :: .any :: .any :: .any :: .any :: .any :: .any :: .any :: .any :: .any :: .any :: .any :: .any :: .any :: .any :: .any :: .any :: .any :: .any :: .any :: .any :: .any :: .any :: .any :: .any :: .any :: .any :: .any :: .any :: .any :: .any :: .any :: .any :: .any :: .any :: .any :: .any :: .any :: .any :: .any :: .any :: .any :: .any :: .any :: .any :: .any :: .any :: .any :: .any :: .any :: .any :: .any :: .any :: .any :: .any :: .any :: .any :: []) ([]) _
        refine ifO h (fun hc64 h => ?_) (fun hc64 h => ?_)
        · show Exists _
          exact ⟨(s57), h, (fun i => i), ⟨(rE rfl <| rE rfl <| rA <| rA <| rA <| rE rfl <| rA <| rA <| rA <| rA <| rA <| rA <| rA <| rA <| rA <| rA <| rA <| rA <| rA <| rA <| rA <| rA <| rA <| rA <| rA <| rE rfl <| rA <| rA <| rA <| rA <| rA <| rA <| rA <| rA <| rA <| rA <| rA <| rA <| rA <| rA <| rA <| rA <| rA <| rA <| rA <| rA <| rA <| rA <| rA <| rA <| rA <| rA <| rA <| rA <| rA <| rA <| rA <| rA <| rA <| rA <| rA <| rA <| rA <| rA <| rA <| rA <| rA <| rA <| rA <| rA <| rA <| rA <| rA <| rA <| rA <| rA <| rA <| rA <| rA <| rA <| rA <| rA <| rA <| rA <| rA <| rA <| rA <| rA <| rA <| rA <| rA <| rA <| rA <| rA <| rA <| rA <| rA <| rA <| rA <| rA <| rA <| rA <| rA <| rA <| rA <| rA <| rA <| rA <| rA <| rA <| rA <| rA <| rA <| rA <| rA <| rA <| rA <| rA <| rA <| rA <| rA <| rA <| rA <| rA <| rA <| rA <| rA <| rA <| rA <| rA <| rA <| rA <| rA <| rA <| rA <| rA <| rA <| rA <| rA <| rA <| rA <| rN), (hN), rfl, rfl, (roN)⟩⟩
        · refine join_rule (σ := Bool) (fun s => (.p (.str s_0) :: .p (.int .i64 i) :: .any :: .any :: .any :: .p (.int .u8 (b1.toNat : Int)) :: .any :: .any :: .any :: .any :: .any :: .any :: .any :: .any :: .any :: .any :: .any :: .any :: .any :: .any :: .any :: .any :: .any :: .any :: .any :: .p (.bool s) :: .any :: .any :: .any :: .any :: .any :: .any :: .any :: .any :: .any :: .any :: .any :: .any :: .any :: .any :: .any :: .any :: .any :: .any :: .any :: .any :: .any :: .any :: .any :: .any :: .any :: .any :: .any :: .any :: .any :: .any :: .any :: .any :: .any :: .any :: .any :: .any :: .any :: .any :: .any :: .any :: .any :: .any :: .any :: .any :: .any :: .any :: .any :: .any :: .any :: .any :: .any :: .any :: .any :: .any :: .any :: .any :: .any :: .any :: .any :: .any :: .any :: .any :: .any :: .any :: .any :: .any :: .any :: .any :: .any :: .any :: .any :: .any :: .any :: .any :: .any :: .any :: .any :: .any :: .any :: .any :: .any :: .any :: .any :: .any :: .any :: .any :: .any :: .any :: .any :: .any :: .any :: .any :: .any :: .any :: .any :: .any :: .any :: .any :: .any :: .any :: .any :: .any :: .any :: .any :: .any :: .any :: .any :: .any :: .any :: .any :: .any :: .any :: .any :: .any :: .any :: [] : List AV)) (fun s => ([] : List AObj)) (fun s => F_polyglotref16_step_J3 N (F_polyglotref16_step_J1 N s_0 i b1) s_0 i b1 s = some r) (fun _ _ => Nat.le_of_ble_eq_true rfl) ?_ ?_
          · refine ifO h (fun hc72 h => ?_) (fun hc72 h => ?_)
            · obtain ⟨v73, hv74, h⟩ := bindO h
              refine call_pure (F_polyglotref16_after_ok hv74) (.cons (.p _) (.cons (.p _) (.cons (.p _) (.cons (.p _) .nil)))) ?_
              refine ifO h (fun hc75 h => ?_) (fun hc75 h => ?_)
              · obtain ⟨v76, hv77, h⟩ := bindO h
                refine call_pure (F_polyglotref16_after_ok hv77) (.cons (.p _) (.cons (.p _) (.cons (.p _) (.cons (.p _) .nil)))) ?_
                show Exists _
                exact ⟨(v76), h, (fun i => i), ⟨(rE rfl <| rE rfl <| rA <| rA <| rA <| rE rfl <| rA <| rA <| rA <| rA <| rA <| rA <| rA <| rA <| rA <| rA <| rA <| rA <| rA <| rA <| rA <| rA <| rA <| rA <| rA <| rE rfl <| rA <| rA <| rA <| rA <| rA <| rA <| rA <| rA <| rA <| rA <| rA <| rA <| rA <| rA <| rA <| rA <| rA <| rA <| rA <| rA <| rA <| rA <| rA <| rA <| rA <| rA <| rA <| rA <| rA <| rA <| rA <| rA <| rA <| rA <| rA <| rA <| rA <| rA <| rA <| rA <| rA <| rA <| rA <| rA <| rA <| rA <| rA <| rA <| rA <| rA <| rA <| rA <| rA <| rA <| rA <| rA <| rA <| rA <| rA <| rA <| rA <| rA <| rA <| rA <| rA <| rA <| rA <| rA <| rA <| rA <| rA <| rA <| rA <| rA <| rA <| rA <| rA <| rA <| rA <| rA <| rA <| rA <| rA <| rA <| rA <| rA <| rA <| rA <| rA <| rA <| rA <| rA <| rA <| rA <| rA <| rA <| rA <| rA <| rA <| rA <| rA <| rA <| rA <| rA <| rA <| rA <| rA <| rA <| rA <| rA <| rA <| rA <| rA <| rA <| rA <| rN), (hN), rfl, rfl, (roN)⟩⟩
              · show Exists _
                exact ⟨(false), h, (fun i => i), ⟨(rE rfl <| rE rfl <| rA <| rA <| rA <| rE rfl <| rA <| rA <| rA <| rA <| rA <| rA <| rA <| rA <| rA <| rA <| rA <| rA <| rA <| rA <| rA <| rA <| rA <| rA <| rA <| rE rfl <| rA <| rA <| rA <| rA <| rA <| rA <| rA <| rA <| rA <| rA <| rA <| rA <| rA <| rA <| rA <| rA <| rA <| rA <| rA <| rA <| rA <| rA <| rA <| rA <| rA <| rA <| rA <| rA <| rA <| rA <| rA <| rA <| rA <| rA <| rA <| rA <| rA <| rA <| rA <| rA <| rA <| rA <| rA <| rA <| rA <| rA <| rA <| rA <| rA <| rA <| rA <| rA <| rA <| rA <| rA <| rA <| rA <| rA <| rA <| rA <| rA <| rA <| rA <| rA <| rA <| rA <| rA <| rA <| rA <| rA <| rA <| rA <| rA <| rA <| rA <| rA <| rA <| rA <| rA <| rA <| rA <| rA <| rA <| rA <| rA <| rA <| rA <| rA <| rA <| rA <| rA <| rA <| rA <| rA <| rA <| rA <| rA <| rA <| rA <| rA <| rA <| rA <| rA <| rA <| rA <| rA <| rA <| rA <| rA <| rA <| rA <| rA <| rA <| rA <| rA <| rN), (hN), rfl, rfl, (roN)⟩⟩
            · show Exists _
              exact ⟨(false), h, (fun i => i), ⟨(rE rfl <| rE rfl <| rA <| rA <| rA <| rE rfl <| rA <| rA <| rA <| rA <| rA <| rA <| rA <| rA <| rA <| rA <| rA <| rA <| rA <| rA <| rA <| rA <| rA <| rA <| rA <| rE rfl <| rA <| rA <| rA <| rA <| rA <| rA <| rA <| rA <| rA <| rA <| rA <| rA <| rA <| rA <| rA <| rA <| rA <| rA <| rA <| rA <| rA <| rA <| rA <| rA <| rA <| rA <| rA <| rA <| rA <| rA <| rA <| rA <| rA <| rA <| rA <| rA <| rA <| rA <| rA <| rA <| rA <| rA <| rA <| rA <| rA <| rA <| rA <| rA <| rA <| rA <| rA <| rA <| rA <| rA <| rA <| rA <| rA <| rA <| rA <| rA <| rA <| rA <| rA <| rA <| rA <| rA <| rA <| rA <| rA <| rA <| rA <| rA <| rA <| rA <| rA <| rA <| rA <| rA <| rA <| rA <| rA <| rA <| rA <| rA <| rA <| rA <| rA <| rA <| rA <| rA <| rA <| rA <| rA <| rA <| rA <| rA <| rA <| rA <| rA <| rA <| rA <| rA <| rA <| rA <| rA <| rA <| rA <| rA <| rA <| rA <| rA <| rA <| rA <| rA <| rA <| rN), (hN), rfl, rfl, (roN)⟩⟩
          rintro s71 h
          dsimp only [F_polyglotref16_step_J3] at h
          show ev (EP _ _) _ (.p (.str s_0) :: .p (.int .i64 i) :: .any :: .any :: .any :: .p (.int .u8 (b1.toNat : Int)) :: .any :: .any :: .any :: .any :: .any :: .any :: .any :: .any :: .any :: .any :: .any :: .any :: .any :: .any :: .any :: .any :: .any :: .any :: .any :: .p (.bool s71) :: .any :: .any :: .any :: .any :: .any :: .any :: .any :: .any :: .any :: .any :: .any :: .any :: .any :: .any :: .any :: .any :: .any :: .any :: .any :: .any :: .any :: .any :: .any :: .any :: .any :: .any :: .any :: .any :: .any :: .any :: .any :: .any :: .any :: .any :: .any :: .any :: .any :: .any :: .any :: .any :: .any :: .any :: .any :: .any :: .any :: .any :: .any :: .any :: .any :: .any :: .any :: .any :: .any :: .any :: .any :: .any :: .any :: .any :: .any :: .any :: .any :: .any :: .any :: .any :: .any :: .any :: .any :: .any :: .any :: .any :: .any :: .any :: .any :: .any :: .any :: .any :: .any :: .any :: .any :: .any :: .any :: .any :: .any :: .any :: .any :: .any :: .any :: .any :: .any :: .any :: .any :: .any :: .any :: .any :: .any :: .any :: .any :: .any :: .any :: .any :: .any :: .any :: .any :: .any :: .any :: .any :: .any :: .any :: .any :: .any :: .any :: .any :: .any :: .any :: .any :: []) ([]) _
          refine ifO h (fun hc78 h => ?_) (fun hc78 h => ?_)
          · show Exists _
            exact ⟨(s71), h, (fun i => i), ⟨(rE rfl <| rE rfl <| rA <| rA <| rA <| rE rfl <| rA <| rA <| rA <| rA <| rA <| rA <| rA <| rA <| rA <| rA <| rA <| rA <| rA <| rA <| rA <| rA <| rA <| rA <| rA <| rE rfl <| rA <| rA <| rA <| rA <| rA <| rA <| rA <| rA <| rA <| rA <| rA <| rA <| rA <| rA <| rA <| rA <| rA <| rA <| rA <| rA <| rA <| rA <| rA <| rA <| rA <| rA <| rA <| rA <| rA <| rA <| rA <| rA <| rA <| rA <| rA <| rA <| rA <| rA <| rA <| rA <| rA <| rA <| rA <| rA <| rA <| rA <| rA <| rA <| rA <| rA <| rA <| rA <| rA <| rA <| rA <| rA <| rA <| rA <| rA <| rA <| rA <| rA <| rA <| rA <| rA <| rA <| rA <| rA <| rA <| rA <| rA <| rA <| rA <| rA <| rA <| rA <| rA <| rA <| rA <| rA <| rA <| rA <| rA <| rA <| rA <| rA <| rA <| rA <| rA <| rA <| rA <| rA <| rA <| rA <| rA <| rA <| rA <| rA <| rA <| rA <| rA <| rA <| rA <| rA <| rA <| rA <| rA <| rA <| rA <| rA <| rA <| rA <| rA <| rA <| rA <| rN), (hN), rfl, rfl, (roN)⟩⟩
          · refine ifO h (fun hc79 h => ?_) (fun hc79 h => ?_)
            · refine ifO h (fun hc80 h => ?_) (fun hc80 h => ?_)
              · refine ifO h (fun hc81 h => ?_) (fun hc81 h => ?_)
                · obtain ⟨v82, hv83, h⟩ := bindO h
                  refine call_pure (F_polyglotref16_after_ok hv83) (.cons (.p _) (.cons (.p _) (.cons (.p _) (.cons (.p _) .nil)))) ?_
                  refine ifO h (fun hc84 h => ?_) (fun hc84 h => ?_)
                  · obtain ⟨v85, hv86, h⟩ := bindO h
                    refine call_pure (F_polyglotref16_after_ok hv86) (.cons (.p _) (.cons (.p _) (.cons (.p _) (.cons (.p _) .nil)))) ?_
                    show Exists _
                    exact ⟨(v85), h, (fun i => i), ⟨(rE rfl <| rE rfl <| rA <| rA <| rA <| rE rfl <| rA <| rA <| rA <| rA <| rA <| rA <| rA <| rA <| rA <| rA <| rA <| rA <| rA <| rA <| rA <| rA <| rA <| rA <| rA <| rE rfl <| rA <| rA <| rA <| rA <| rA <| rA <| rA <| rA <| rA <| rA <| rA <| rA <| rA <| rA <| rA <| rA <| rA <| rA <| rA <| rA <| rA <| rA <| rA <| rA <| rA <| rA <| rA <| rA <| rA <| rA <| rA <| rA <| rA <| rA <| rA <| rA <| rA <| rA <| rA <| rA <| rA <| rA <| rA <| rA <| rA <| rA <| rA <| rA <| rA <| rA <| rA <| rA <| rA <| rA <| rA <| rA <| rA <| rA <| rA <| rA <| rA <| rA <| rA <| rA <| rA <| rA <| rA <| rA <| rA <| rA <| rA <| rA <| rA <| rA <| rA <| rA <| rA <| rA <| rA <| rA <| rA <| rA <| rA <| rA <| rA <| rA <| rA <| rA <| rA <| rA <| rA <| rA <| rA <| rA <| rA <| rA <| rA <| rA <| rA <| rA <| rA <| rA <| rA <| rA <| rA <| rA <| rA <| rA <| rA <| rA <| rA <| rA <| rA <| rA <| rA <| rN), (hN), rfl, rfl, (roN)⟩⟩
                  · show Exists _
                    exact ⟨(false), h, (fun i => i), ⟨(rE rfl <| rE rfl <| rA <| rA <| rA <| rE rfl <| rA <| rA <| rA <| rA <| rA <| rA <| rA <| rA <| rA <| rA <| rA <| rA <| rA <| rA <| rA <| rA <| rA <| rA <| rA <| rE rfl <| rA <| rA <| rA <| rA <| rA <| rA <| rA <| rA <| rA <| rA <| rA <| rA <| rA <| rA <| rA <| rA <| rA <| rA <| rA <| rA <| rA <| rA <| rA <| rA <| rA <| rA <| rA <| rA <| rA <| rA <| rA <| rA <| rA <| rA <| rA <| rA <| rA <| rA <| rA <| rA <| rA <| rA <| rA <| rA <| rA <| rA <| rA <| rA <| rA <| rA <| rA <| rA <| rA <| rA <| rA <| rA <| rA <| rA <| rA <| rA <| rA <| rA <| rA <| rA <| rA <| rA <| rA <| rA <| rA <| rA <| rA <| rA <| rA <| rA <| rA <| rA <| rA <| rA <| rA <| rA <| rA <| rA <| rA <| rA <| rA <| rA <| rA <| rA <| rA <| rA <| rA <| rA <| rA <| rA <| rA <| rA <| rA <| rA <| rA <| rA <| rA <| rA <| rA <| rA <| rA <| rA <| rA <| rA <| rA <| rA <| rA <| rA <| rA <| rA <| rA <| rN), (hN), rfl, rfl, (roN)⟩⟩
                · show Exists _
                  exact ⟨(false), h, (fun i => i), ⟨(rE rfl <| rE rfl <| rA <| rA <| rA <| rE rfl <| rA <| rA <| rA <| rA <| rA <| rA <| rA <| rA <| rA <| rA <| rA <| rA <| rA <| rA <| rA <| rA <| rA <| rA <| rA <| rE rfl <| rA <| rA <| rA <| rA <| rA <| rA <| rA <| rA <| rA <| rA <| rA <| rA <| rA <| rA <| rA <| rA <| rA <| rA <| rA <| rA <| rA <| rA <| rA <| rA <| rA <| rA <| rA <| rA <| rA <| rA <| rA <| rA <| rA <| rA <| rA <| rA <| rA <| rA <| rA <| rA <| rA <| rA <| rA <| rA <| rA <| rA <| rA <| rA <| rA <| rA <| rA <| rA <| rA <| rA <| rA <| rA <| rA <| rA <| rA <| rA <| rA <| rA <| rA <| rA <| rA <| rA <| rA <| rA <| rA <| rA <| rA <| rA <| rA <| rA <| rA <| rA <| rA <| rA <| rA <| rA <| rA <| rA <| rA <| rA <| rA <| rA <| rA <| rA <| rA <| rA <| rA <| rA <| rA <| rA <| rA <| rA <| rA <| rA <| rA <| rA <| rA <| rA <| rA <| rA <| rA <| rA <| rA <| rA <| rA <| rA <| rA <| rA <| rA <| rA <| rA <| rN), (hN), rfl, rfl, (roN)⟩⟩
              · show Exists _
                exact ⟨(false), h, (fun i => i), ⟨(rE rfl <| rE rfl <| rA <| rA <| rA <| rE rfl <| rA <| rA <| rA <| rA <| rA <| rA <| rA <| rA <| rA <| rA <| rA <| rA <| rA <| rA <| rA <| rA <| rA <| rA <| rA <| rE rfl <| rA <| rA <| rA <| rA <| rA <| rA <| rA <| rA <| rA <| rA <| rA <| rA <| rA <| rA <| rA <| rA <| rA <| rA <| rA <| rA <| rA <| rA <| rA <| rA <| rA <| rA <| rA <| rA <| rA <| rA <| rA <| rA <| rA <| rA <| rA <| rA <| rA <| rA <| rA <| rA <| rA <| rA <| rA <| rA <| rA <| rA <| rA <| rA <| rA <| rA <| rA <| rA <| rA <| rA <| rA <| rA <| rA <| rA <| rA <| rA <| rA <| rA <| rA <| rA <| rA <| rA <| rA <| rA <| rA <| rA <| rA <| rA <| rA <| rA <| rA <| rA <| rA <| rA <| rA <| rA <| rA <| rA <| rA <| rA <| rA <| rA <| rA <| rA <| rA <| rA <| rA <| rA <| rA <| rA <| rA <| rA <| rA <| rA <| rA <| rA <| rA <| rA <| rA <| rA <| rA <| rA <| rA <| rA <| rA <| rA <| rA <| rA <| rA <| rA <| rA <| rN), (hN), rfl, rfl, (roN)⟩⟩
            · show Exists _
              exact ⟨(false), h, (fun i => i), ⟨(rE rfl <| rE rfl <| rA <| rA <| rA <| rE rfl <| rA <| rA <| rA <| rA <| rA <| rA <| rA <| rA <| rA <| rA <| rA <| rA <| rA <| rA <| rA <| rA <| rA <| rA <| rA <| rE rfl <| rA <| rA <| rA <| rA <| rA <| rA <| rA <| rA <| rA <| rA <| rA <| rA <| rA <| rA <| rA <| rA <| rA <| rA <| rA <| rA <| rA <| rA <| rA <| rA <| rA <| rA <| rA <| rA <| rA <| rA <| rA <| rA <| rA <| rA <| rA <| rA <| rA <| rA <| rA <| rA <| rA <| rA <| rA <| rA <| rA <| rA <| rA <| rA <| rA <| rA <| rA <| rA <| rA <| rA <| rA <| rA <| rA <| rA <| rA <| rA <| rA <| rA <| rA <| rA <| rA <| rA <| rA <| rA <| rA <| rA <| rA <| rA <| rA <| rA <| rA <| rA <| rA <| rA <| rA <| rA <| rA <| rA <| rA <| rA <| rA <| rA <| rA <| rA <| rA <| rA <| rA <| rA <| rA <| rA <| rA <| rA <| rA <| rA <| rA <| rA <| rA <| rA <| rA <| rA <| rA <| rA <| rA <| rA <| rA <| rA <| rA <| rA <| rA <| rA <| rA <| rN), (hN), rfl, rfl, (roN)⟩⟩
      rintro s50 h
      dsimp only [F_polyglotref16_step_J1] at h
      show ev (EP _ _) _ (.p (.str s_0) :: .p (.int .i64 i) :: .any :: .any :: .any :: .p (.int .u8 (b1.toNat : Int)) :: .any :: .any :: .any :: .any :: .any :: .any :: .any :: .any :: .any :: .any :: .any :: .any :: .any :: .any :: .any :: .any :: .any :: .any :: .any :: .p (.bool s50) :: .any :: .any :: .any :: .any :: .any :: .any :: .any :: .any :: .any :: .any :: .any :: .any :: .any :: .any :: .any :: .any :: .any :: .any :: .any :: .any :: .any :: .any :: .any :: .any :: .any :: .any :: .any :: .any :: .any :: .any :: .any :: .any :: .any :: .any :: .any :: .any :: .any :: .any :: .any :: .any :: .any :: .any :: .any :: .any :: .any :: .any :: .any :: .any :: .any :: .any :: .any :: .any :: .any :: .any :: .any :: .any :: .any :: .any :: .any :: .any :: .any :: .any :: .any :: .any :: .any :: .any :: .any :: .any :: .any :: .any :: .any :: .any :: .any :: .any :: .any :: .any :: .any :: .any :: .any :: .any :: .any :: .any :: .any :: .any :: .any :: .any :: .any :: .any :: .any :: .any :: .any :: .any :: .any :: .any :: .any :: .any :: .any :: .any :: .any :: .any :: .any :: .any :: .any :: .any :: .any :: .any :: .any :: .any :: .any :: .any :: .any :: .any :: .any :: .any :: .any :: []) ([]) _
      refine ifO h (fun hc87 h => ?_) (fun hc87 h => ?_)
      · have hr := someO h
        subst hr
        exact (.p _)
      · refine join_rule (σ := Bool) (fun s => (.any :: .any :: .any :: .any :: .any :: .any :: .any :: .any :: .any :: .any :: .any :: .any :: .any :: .any :: .any :: .any :: .any :: .any :: .any :: .any :: .any :: .any :: .any :: .any :: .any :: .any :: .any :: .any :: .any :: .any :: .any :: .any :: .any :: .any :: .any :: .any :: .any :: .any :: .any :: .any :: .any :: .any :: .any :: .any :: .any :: .any :: .any :: .any :: .any :: .any :: .any :: .any :: .any :: .any :: .any :: .any :: .any :: .any :: .any :: .any :: .any :: .any :: .any :: .any :: .any :: .any :: .any :: .any :: .any :: .any :: .any :: .any :: .any :: .any :: .any :: .any :: .p (.bool s) :: .any :: .any :: .any :: .any :: .any :: .any :: .any :: .any :: .any :: .any :: .any :: .any :: .any :: .any :: .any :: .any :: .any :: .any :: .any :: .any :: .any :: .any :: .any :: .any :: .any :: .any :: .any :: .any :: .any :: .any :: .any :: .any :: .any :: .any :: .any :: .any :: .any :: .any :: .any :: .any :: .any :: .any :: .any :: .any :: .any :: .any :: .any :: .any :: .any :: .any :: .any :: .any :: .any :: .any :: .any :: .any :: .any :: .any :: .any :: .any :: .any :: .any :: .any :: .any :: [] : List AV)) (fun s => ([] : List AObj)) (fun s => F_polyglotref16_step_J4 N s = some r) (fun _ _ => Nat.le_of_ble_eq_true rfl) ?_ ?_
        · refine join_rule (σ := Bool) (fun s => (.p (.str s_0) :: .p (.int .i64 i) :: .any :: .any :: .any :: .p (.int .u8 (b1.toNat : Int)) :: .any :: .any :: .any :: .any :: .any :: .any :: .any :: .any :: .any :: .any :: .any :: .any :: .any :: .any :: .any :: .any :: .any :: .any :: .any :: .any :: .any :: .any :: .any :: .any :: .any :: .any :: .any :: .any :: .any :: .any :: .any :: .any :: .any :: .any :: .any :: .any :: .any :: .any :: .any :: .any :: .any :: .any :: .any :: .any :: .any :: .any :: .any :: .any :: .any :: .any :: .any :: .any :: .any :: .any :: .any :: .any :: .any :: .any :: .any :: .any :: .any :: .any :: .any :: .any :: .any :: .any :: .any :: .any :: .any :: .any :: .p (.bool s) :: .any :: .any :: .any :: .any :: .any :: .any :: .any :: .any :: .any :: .any :: .any :: .any :: .any :: .any :: .any :: .any :: .any :: .any :: .any :: .any :: .any :: .any :: .any :: .any :: .any :: .any :: .any :: .any :: .any :: .any :: .any :: .any :: .any :: .any :: .any :: .any :: .any :: .any :: .any :: .any :: .any :: .any :: .any :: .any :: .any :: .any :: .any :: .any :: .any :: .any :: .any :: .any :: .any :: .any :: .any :: .any :: .any :: .any :: .any :: .any :: .any :: .any :: .any :: .any :: [] : List AV)) (fun s => ([] : List AObj)) (fun s => F_polyglotref16_step_J5 N (F_polyglotref16_step_J4 N) s_0 i b1 s = some r) (fun _ _ => Nat.le_of_ble_eq_true rfl) ?_ ?_
          · refine ifO h (fun hc150 h => ?_) (fun hc150 h => ?_)
            · obtain ⟨v151, hv152, h⟩ := bindO h
              refine call_pure (F_polyglotref16_after_ok hv152) (.cons (.p _) (.cons (.p _) (.cons (.p _) (.cons (.p _) .nil)))) ?_
              refine ifO h (fun hc153 h => ?_) (fun hc153 h => ?_)
              · obtain ⟨v154, hv155, h⟩ := bindO h
                refine call_pure (F_polyglotref16_after_ok hv155) (.cons (.p _) (.cons (.p _) (.cons (.p _) (.cons (.p _) .nil)))) ?_
                refine ifO h (fun hc156 h => ?_) (fun hc156 h => ?_)
                · obtain ⟨v157, hv158, h⟩ := bindO h
                  refine call_pure (F_polyglotref16_after_ok hv158) (.cons (.p _) (.cons (.p _) (.cons (.p _) (.cons (.p _) .nil)))) ?_
                  show Exists _
                  exact ⟨(v157), h, (fun i => i), ⟨(rE rfl <| rE rfl <| rA <| rA <| rA <| rE rfl <| rA <| rA <| rA <| rA <| rA <| rA <| rA <| rA <| rA <| rA <| rA <| rA <| rA <| rA <| rA <| rA <| rA <| rA <| rA <| rA <| rA <| rA <| rA <| rA <| rA <| rA <| rA <| rA <| rA <| rA <| rA <| rA <| rA <| rA <| rA <| rA <| rA <| rA <| rA <| rA <| rA <| rA <| rA <| rA <| rA <| rA <| rA <| rA <| rA <| rA <| rA <| rA <| rA <| rA <| rA <| rA <| rA <| rA <| rA <| rA <| rA <| rA <| rA <| rA <| rA <| rA <| rA <| rA <| rA <| rA <| rE rfl <| rA <| rA <| rA <| rA <| rA <| rA <| rA <| rA <| rA <| rA <| rA <| rA <| rA <| rA <| rA <| rA <| rA <| rA <| rA <| rA <| rA <| rA <| rA <| rA <| rA <| rA <| rA <| rA <| rA <| rA <| rA <| rA <| rA <| rA <| rA <| rA <| rA <| rA <| rA <| rA <| rA <| rA <| rA <| rA <| rA <| rA <| rA <| rA <| rA <| rA <| rA <| rA <| rA <| rA <| rA <| rA <| rA <| rA <| rA <| rA <| rA <| rA <| rA <| rA <| rN), (hN), rfl, rfl, (roN)⟩⟩
                · show Exists _
                  exact ⟨(false), h, (fun i => i), ⟨(rE rfl <| rE rfl <| rA <| rA <| rA <| rE rfl <| rA <| rA <| rA <| rA <| rA <| rA <| rA <| rA <| rA <| rA <| rA <| rA <| rA <| rA <| rA <| rA <| rA <| rA <| rA <| rA <| rA <| rA <| rA <| rA <| rA <| rA <| rA <| rA <| rA <| rA <| rA <| rA <| rA <| rA <| rA <| rA <| rA <| rA <| rA <| rA <| rA <| rA <| rA <| rA <| rA <| rA <| rA <| rA <| rA <| rA <| rA <| rA <| rA <| rA <| rA <| rA <| rA <| rA <| rA <| rA <| rA <| rA <| rA <| rA <| rA <| rA <| rA <| rA <| rA <| rA <| rE rfl <| rA <| rA <| rA <| rA <| rA <| rA <| rA <| rA <| rA <| rA <| rA <| rA <| rA <| rA <| rA <| rA <| rA <| rA <| rA <| rA <| rA <| rA <| rA <| rA <| rA <| rA <| rA <| rA <| rA <| rA <| rA <| rA <| rA <| rA <| rA <| rA <| rA <| rA <| rA <| rA <| rA <| rA <| rA <| rA <| rA <| rA <| rA <| rA <| rA <| rA <| rA <| rA <| rA <| rA <| rA <| rA <| rA <| rA <| rA <| rA <| rA <| rA <| rA <| rA <| rN), (hN), rfl, rfl, (roN)⟩⟩
              · show Exists _
                exact ⟨(false), h, (fun i => i), ⟨(rE rfl <| rE rfl <| rA <| rA <| rA <| rE rfl <| rA <| rA <| rA <| rA <| rA <| rA <| rA <| rA <| rA <| rA <| rA <| rA <| rA <| rA <| rA <| rA <| rA <| rA <| rA <| rA <| rA <| rA <| rA <| rA <| rA <| rA <| rA <| rA <| rA <| rA <| rA <| rA <| rA <| rA <| rA <| rA <| rA <| rA <| rA <| rA <| rA <| rA <| rA <| rA <| rA <| rA <| rA <| rA <| rA <| rA <| rA <| rA <| rA <| rA <| rA <| rA <| rA <| rA <| rA <| rA <| rA <| rA <| rA <| rA <| rA <| rA <| rA <| rA <| rA <| rA <| rE rfl <| rA <| rA <| rA <| rA <| rA <| rA <| rA <| rA <| rA <| rA <| rA <| rA <| rA <| rA <| rA <| rA <| rA <| rA <| rA <| rA <| rA <| rA <| rA <| rA <| rA <| rA <| rA <| rA <| rA <| rA <| rA <| rA <| rA <| rA <| rA <| rA <| rA <| rA <| rA <| rA <| rA <| rA <| rA <| rA <| rA <| rA <| rA <| rA <| rA <| rA <| rA <| rA <| rA <| rA <| rA <| rA <| rA <| rA <| rA <| rA <| rA <| rA <| rA <| rA <| rN), (hN), rfl, rfl, (roN)⟩⟩
            · show Exists _
              exact ⟨(false), h, (fun i => i), ⟨(rE rfl <| rE rfl <| rA <| rA <| rA <| rE rfl <| rA <| rA <| rA <| rA <| rA <| rA <| rA <| rA <| rA <| rA <| rA <| rA <| rA <| rA <| rA <| rA <| rA <| rA <| rA <| rA <| rA <| rA <| rA <| rA <| rA <| rA <| rA <| rA <| rA <| rA <| rA <| rA <| rA <| rA <| rA <| rA <| rA <| rA <| rA <| rA <| rA <| rA <| rA <| rA <| rA <| rA <| rA <| rA <| rA <| rA <| rA <| rA <| rA <| rA <| rA <| rA <| rA <| rA <| rA <| rA <| rA <| rA <| rA <| rA <| rA <| rA <| rA <| rA <| rA <| rA <| rE rfl <| rA <| rA <| rA <| rA <| rA <| rA <| rA <| rA <| rA <| rA <| rA <| rA <| rA <| rA <| rA <| rA <| rA <| rA <| rA <| rA <| rA <| rA <| rA <| rA <| rA <| rA <| rA <| rA <| rA <| rA <| rA <| rA <| rA <| rA <| rA <| rA <| rA <| rA <| rA <| rA <| rA <| rA <| rA <| rA <| rA <| rA <| rA <| rA <| rA <| rA <| rA <| rA <| rA <| rA <| rA <| rA <| rA <| rA <| rA <| rA <| rA <| rA <| rA <| rA <| rN), (hN), rfl, rfl, (roN)⟩⟩
          rintro s149 h
          dsimp only [F_polyglotref16_step_J5] at h
          show ev (EP _ _) _ (.p (.str s_0) :: .p (.int .i64 i) :: .any :: .any :: .any :: .p (.int .u8 (b1.toNat : Int)) :: .any :: .any :: .any :: .any :: .any :: .any :: .any :: .any :: .any :: .any :: .any :: .any :: .any :: .any :: .any :: .any :: .any :: .any :: .any :: .any :: .any :: .any :: .any :: .any :: .any :: .any :: .any :: .any :: .any :: .any :: .any :: .any :: .any :: .any :: .any :: .any :: .any :: .any :: .any :: .any :: .any :: .any :: .any :: .any :: .any :: .any :: .any :: .any :: .any :: .any :: .any :: .any :: .any :: .any :: .any :: .any :: .any :: .any :: .any :: .any :: .any :: .any :: .any :: .any :: .any :: .any :: .any :: .any :: .any :: .any :: .p (.bool s149) :: .any :: .any :: .any :: .any :: .any :: .any :: .any :: .any :: .any :: .any :: .any :: .any :: .any :: .any :: .any :: .any :: .any :: .any :: .any :: .any :: .any :: .any :: .any :: .any :: .any :: .any :: .any :: .any :: .any :: .any :: .any :: .any :: .any :: .any :: .any :: .any :: .any :: .any :: .any :: .any :: .any :: .any :: .any :: .any :: .any :: .any :: .any :: .any :: .any :: .any :: .any :: .any :: .any :: .any :: .any :: .any :: .any :: .any :: .any :: .any :: .any :: .any :: .any :: .any :: []) ([]) _
          refine ifO h (fun hc159 h => ?_) (fun hc159 h => ?_)
          · show Exists _
            exact ⟨(s149), h, (fun i => i), ⟨(rA <| rA <| rA <| rA <| rA <| rA <| rA <| rA <| rA <| rA <| rA <| rA <| rA <| rA <| rA <| rA <| rA <| rA <| rA <| rA <| rA <| rA <| rA <| rA <| rA <| rA <| rA <| rA <| rA <| rA <| rA <| rA <| rA <| rA <| rA <| rA <| rA <| rA <| rA <| rA <| rA <| rA <| rA <| rA <| rA <| rA <| rA <| rA <| rA <| rA <| rA <| rA <| rA <| rA <| rA <| rA <| rA <| rA <| rA <| rA <| rA <| rA <| rA <| rA <| rA <| rA <| rA <| rA <| rA <| rA <| rA <| rA <| rA <| rA <| rA <| rA <| rE rfl <| rA <| rA <| rA <| rA <| rA <| rA <| rA <| rA <| rA <| rA <| rA <| rA <| rA <| rA <| rA <| rA <| rA <| rA <| rA <| rA <| rA <| rA <| rA <| rA <| rA <| rA <| rA <| rA <| rA <| rA <| rA <| rA <| rA <| rA <| rA <| rA <| rA <| rA <| rA <| rA <| rA <| rA <| rA <| rA <| rA <| rA <| rA <| rA <| rA <| rA <| rA <| rA <| rA <| rA <| rA <| rA <| rA <| rA <| rA <| rA <| rA <| rA <| rA <| rA <| rN), (hN), rfl, rfl, (roN)⟩⟩
          · refine join_rule (σ := Bool) (fun s => (.p (.str s_0) :: .p (.int .i64 i) :: .any :: .any :: .any :: .p (.int .u8 (b1.toNat : Int)) :: .any :: .any :: .any :: .any :: .any :: .any :: .any :: .any :: .any :: .any :: .any :: .any :: .any :: .any :: .any :: .any :: .any :: .any :: .any :: .any :: .any :: .any :: .any :: .any :: .any :: .any :: .any :: .any :: .any :: .any :: .any :: .any :: .any :: .any :: .any :: .any :: .any :: .any :: .any :: .any :: .any :: .any :: .any :: .any :: .any :: .any :: .any :: .any :: .any :: .any :: .any :: .any :: .any :: .any :: .any :: .any :: .any :: .any :: .any :: .any :: .any :: .any :: .any :: .any :: .any :: .any :: .any :: .any :: .any :: .any :: .p (.bool s) :: .any :: .any :: .any :: .any :: .any :: .any :: .any :: .any :: .any :: .any :: .any :: .any :: .any :: .any :: .any :: .any :: .any :: .any :: .any :: .any :: .any :: .any :: .any :: .any :: .any :: .any :: .any :: .any :: .any :: .any :: .any :: .any :: .any :: .any :: .any :: .any :: .any :: .any :: .any :: .any :: .any :: .any :: .any :: .any :: .any :: .any :: .any :: .any :: .any :: .any :: .any :: .any :: .any :: .any :: .any :: .any :: .any :: .any :: .any :: .any :: .any :: .any :: .any :: .any :: [] : List AV)) (fun s => ([] : List AObj)) (fun s => F_polyglotref16_step_J6 N (F_polyglotref16_step_J4 N) s_0 i b1 s = some r) (fun _ _ => Nat.le_of_ble_eq_true rfl) ?_ ?_
            · refine ifO h (fun hc171 h => ?_) (fun hc171 h => ?_)
              · refine ifO h (fun hc172 h => ?_) (fun hc172 h => ?_)
                · obtain ⟨v173, hv174, h⟩ := bindO h
                  refine call_pure (F_polyglotref16_after_ok hv174) (.cons (.p _) (.cons (.p _) (.cons (.p _) (.cons (.p _) .nil)))) ?_
                  refine ifO h (fun hc175 h => ?_) (fun hc175 h => ?_)
                  · obtain ⟨v176, hv177, h⟩ := bindO h
                    refine call_pure (F_polyglotref16_after_ok hv177) (.cons (.p _) (.cons (.p _) (.cons (.p _) (.cons (.p _) .nil)))) ?_
                    refine ifO h (fun hc178 h => ?_) (fun hc178 h => ?_)
                    · obtain ⟨v179, hv180, h⟩ := bindO h
                      refine call_pure (F_polyglotref16_after_ok hv180) (.cons (.p _) (.cons (.p _) (.cons (.p _) (.cons (.p _) .nil)))) ?_
                      show Exists _
                      exact ⟨(v179), h, (fun i => i), ⟨(rE rfl <| rE rfl <| rA <| rA <| rA <| rE rfl <| rA <| rA <| rA <| rA <| rA <| rA <| rA <| rA <| rA <| rA <| rA <| rA <| rA <| rA <| rA <| rA <| rA <| rA <| rA <| rA <| rA <| rA <| rA <| rA <| rA <| rA <| rA <| rA <| rA <| rA <| rA <| rA <| rA <| rA <| rA <| rA <| rA <| rA <| rA <| rA <| rA <| rA <| rA <| rA <| rA <| rA <| rA <| rA <| rA <| rA <| rA <| rA <| rA <| rA <| rA <| rA <| rA <| rA <| rA <| rA <| rA <| rA <| rA <| rA <| rA <| rA <| rA <| rA <| rA <| rA <| rE rfl <| rA <| rA <| rA <| rA <| rA <| rA <| rA <| rA <| rA <| rA <| rA <| rA <| rA <| rA <| rA <| rA <| rA <| rA <| rA <| rA <| rA <| rA <| rA <| rA <| rA <| rA <| rA <| rA <| rA <| rA <| rA <| rA <| rA <| rA <| rA <| rA <| rA <| rA <| rA <| rA <| rA <| rA <| rA <| rA <| rA <| rA <| rA <| rA <| rA <| rA <| rA <| rA <| rA <| rA <| rA <| rA <| rA <| rA <| rA <| rA <| rA <| rA <| rA <| rA <| rN), (hN), rfl, rfl, (roN)⟩⟩
                    · show Exists _
                      exact ⟨(false), h, (fun i => i), ⟨(rE rfl <| rE rfl <| rA <| rA <| rA <| rE rfl <| rA <| rA <| rA <| rA <| rA <| rA <| rA <| rA <| rA <| rA <| rA <| rA <| rA <| rA <| rA <| rA <| rA <| rA <| rA <| rA <| rA <| rA <| rA <| rA <| rA <| rA <| rA <| rA <| rA <| rA <| rA <| rA <| rA <| rA <| rA <| rA <| rA <| rA <| rA <| rA <| rA <| rA <| rA <| rA <| rA <| rA <| rA <| rA <| rA <| rA <| rA <| rA <| rA <| rA <| rA <| rA <| rA <| rA <| rA <| rA <| rA <| rA <| rA <| rA <| rA <| rA <| rA <| rA <| rA <| rA <| rE rfl <| rA <| rA <| rA <| rA <| rA <| rA <| rA <| rA <| rA <| rA <| rA <| rA <| rA <| rA <| rA <| rA <| rA <| rA <| rA <| rA <| rA <| rA <| rA <| rA <| rA <| rA <| rA <| rA <| rA <| rA <| rA <| rA <| rA <| rA <| rA <| rA <| rA <| rA <| rA <| rA <| rA <| rA <| rA <| rA <| rA <| rA <| rA <| rA <| rA <| rA <| rA <| rA <| rA <| rA <| rA <| rA <| rA <| rA <| rA <| rA <| rA <| rA <| rA <| rA <| rN), (hN), rfl, rfl, (roN)⟩⟩
                  · show Exists _
                    exact ⟨(false), h, (fun i => i), ⟨(rE rfl <| rE rfl <| rA <| rA <| rA <| rE rfl <| rA <| rA <| rA <| rA <| rA <| rA <| rA <| rA <| rA <| rA <| rA <| rA <| rA <| rA <| rA <| rA <| rA <| rA <| rA <| rA <| rA <| rA <| rA <| rA <| rA <| rA <| rA <| rA <| rA <| rA <| rA <| rA <| rA <| rA <| rA <| rA <| rA <| rA <| rA <| rA <| rA <| rA <| rA <| rA <| rA <| rA <| rA <| rA <| rA <| rA <| rA <| rA <| rA <| rA <| rA <| rA <| rA <| rA <| rA <| rA <| rA <| rA <| rA <| rA <| rA <| rA <| rA <| rA <| rA <| rA <| rE rfl <| rA <| rA <| rA <| rA <| rA <| rA <| rA <| rA <| rA <| rA <| rA <| rA <| rA <| rA <| rA <| rA <| rA <| rA <| rA <| rA <| rA <| rA <| rA <| rA <| rA <| rA <| rA <| rA <| rA <| rA <| rA <| rA <| rA <| rA <| rA <| rA <| rA <| rA <| rA <| rA <| rA <| rA <| rA <| rA <| rA <| rA <| rA <| rA <| rA <| rA <| rA <| rA <| rA <| rA <| rA <| rA <| rA <| rA <| rA <| rA <| rA <| rA <| rA <| rA <| rN), (hN), rfl, rfl, (roN)⟩⟩
                · show Exists _
                  exact ⟨(false), h, (fun i => i), ⟨(rE rfl <| rE rfl <| rA <| rA <| rA <| rE rfl <| rA <| rA <| rA <| rA <| rA <| rA <| rA <| rA <| rA <| rA <| rA <| rA <| rA <| rA <| rA <| rA <| rA <| rA <| rA <| rA <| rA <| rA <| rA <| rA <| rA <| rA <| rA <| rA <| rA <| rA <| rA <| rA <| rA <| rA <| rA <| rA <| rA <| rA <| rA <| rA <| rA <| rA <| rA <| rA <| rA <| rA <| rA <| rA <| rA <| rA <| rA <| rA <| rA <| rA <| rA <| rA <| rA <| rA <| rA <| rA <| rA <| rA <| rA <| rA <| rA <| rA <| rA <| rA <| rA <| rA <| rE rfl <| rA <| rA <| rA <| rA <| rA <| rA <| rA <| rA <| rA <| rA <| rA <| rA <| rA <| rA <| rA <| rA <| rA <| rA <| rA <| rA <| rA <| rA <| rA <| rA <| rA <| rA <| rA <| rA <| rA <| rA <| rA <| rA <| rA <| rA <| rA <| rA <| rA <| rA <| rA <| rA <| rA <| rA <| rA <| rA <| rA <| rA <| rA <| rA <| rA <| rA <| rA <| rA <| rA <| rA <| rA <| rA <| rA <| rA <| rA <| rA <| rA <| rA <| rA <| rA <| rN), (hN), rfl, rfl, (roN)⟩⟩
              · show Exists _
                exact ⟨(false), h, (fun i => i), ⟨(rE rfl <| rE rfl <| rA <| rA <| rA <| rE rfl <| rA <| rA <| rA <| rA <| rA <| rA <| rA <| rA <| rA <| rA <| rA <| rA <| rA <| rA <| rA <| rA <| rA <| rA <| rA <| rA <| rA <| rA <| rA <| rA <| rA <| rA <| rA <| rA <| rA <| rA <| rA <| rA <| rA <| rA <| rA <| rA <| rA <| rA <| rA <| rA <| rA <| rA <| rA <| rA <| rA <| rA <| rA <| rA <| rA <| rA <| rA <| rA <| rA <| rA <| rA <| rA <| rA <| rA <| rA <| rA <| rA <| rA <| rA <| rA <| rA <| rA <| rA <| rA <| rA <| rA <| rE rfl <| rA <| rA <| rA <| rA <| rA <| rA <| rA <| rA <| rA <| rA <| rA <| rA <| rA <| rA <| rA <| rA <| rA <| rA <| rA <| rA <| rA <| rA <| rA <| rA <| rA <| rA <| rA <| rA <| rA <| rA <| rA <| rA <| rA <| rA <| rA <| rA <| rA <| rA <| rA <| rA <| rA <| rA <| rA <| rA <| rA <| rA <| rA <| rA <| rA <| rA <| rA <| rA <| rA <| rA <| rA <| rA <| rA <| rA <| rA <| rA <| rA <| rA <| rA <| rA <| rN), (hN), rfl, rfl, (roN)⟩⟩
            rintro s170 h
            dsimp only [F_polyglotref16_step_J6] at h
            show ev (EP _ _) _ (.p (.str s_0) :: .p (.int .i64 i) :: .any :: .any :: .any :: .p (.int .u8 (b1.toNat : Int)) :: .any :: .any :: .any :: .any :: .any :: .any :: .any :: .any :: .any :: .any :: .any :: .any :: .any :: .any :: .any :: .any :: .any :: .any :: .any :: .any :: .any :: .any :: .any :: .any :: .any :: .any :: .any :: .any :: .any :: .any :: .any :: .any :: .any :: .any :: .any :: .any :: .any :: .any :: .any :: .any :: .any :: .any :: .any :: .any :: .any :: .any :: .any :: .any :: .any :: .any :: .any :: .any :: .any :: .any :: .any :: .any :: .any :: .any :: .any :: .any :: .any :: .any :: .any :: .any :: .any :: .any :: .any :: .any :: .any :: .any :: .p (.bool s170) :: .any :: .any :: .any :: .any :: .any :: .any :: .any :: .any :: .any :: .any :: .any :: .any :: .any :: .any :: .any :: .any :: .any :: .any :: .any :: .any :: .any :: .any :: .any :: .any :: .any :: .any :: .any :: .any :: .any :: .any :: .any :: .any :: .any :: .any :: .any :: .any :: .any :: .any :: .any :: .any :: .any :: .any :: .any :: .any :: .any :: .any :: .any :: .any :: .any :: .any :: .any :: .any :: .any :: .any :: .any :: .any :: .any :: .any :: .any :: .any :: .any :: .any :: .any :: .any :: []) ([]) _
            refine ifO h (fun hc181 h => ?_) (fun hc181 h => ?_)
            · show Exists _
              exact ⟨(s170), h, (fun i => i), ⟨(rA <| rA <| rA <| rA <| rA <| rA <| rA <| rA <| rA <| rA <| rA <| rA <| rA <| rA <| rA <| rA <| rA <| rA <| rA <| rA <| rA <| rA <| rA <| rA <| rA <| rA <| rA <| rA <| rA <| rA <| rA <| rA <| rA <| rA <| rA <| rA <| rA <| rA <| rA <| rA <| rA <| rA <| rA <| rA <| rA <| rA <| rA <| rA <| rA <| rA <| rA <| rA <| rA <| rA <| rA <| rA <| rA <| rA <| rA <| rA <| rA <| rA <| rA <| rA <| rA <| rA <| rA <| rA <| rA <| rA <| rA <| rA <| rA <| rA <| rA <| rA <| rE rfl <| rA <| rA <| rA <| rA <| rA <| rA <| rA <| rA <| rA <| rA <| rA <| rA <| rA <| rA <| rA <| rA <| rA <| rA <| rA <| rA <| rA <| rA <| rA <| rA <| rA <| rA <| rA <| rA <| rA <| rA <| rA <| rA <| rA <| rA <| rA <| rA <| rA <| rA <| rA <| rA <| rA <| rA <| rA <| rA <| rA <| rA <| rA <| rA <| rA <| rA <| rA <| rA <| rA <| rA <| rA <| rA <| rA <| rA <| rA <| rA <| rA <| rA <| rA <| rA <| rN), (hN), rfl, rfl, (roN)⟩⟩
            · refine ifO h (fun hc182 h => ?_) (fun hc182 h => ?_)
              · obtain ⟨v183, hv184, h⟩ := bindO h
                refine call_pure (F_polyglotref16_after_ok hv184) (.cons (.p _) (.cons (.p _) (.cons (.p _) (.cons (.p _) .nil)))) ?_
                refine ifO h (fun hc185 h => ?_) (fun hc185 h => ?_)
                · obtain ⟨v186, hv187, h⟩ := bindO h
                  refine call_pure (F_polyglotref16_after_ok hv187) (.cons (.p _) (.cons (.p _) (.cons (.p _) (.cons (.p _) .nil)))) ?_
                  refine ifO h (fun hc188 h => ?_) (fun hc188 h => ?_)
                  · obtain ⟨v189, hv190, h⟩ := bindO h
                    refine call_pure (F_polyglotref16_after_ok hv190) (.cons (.p _) (.cons (.p _) (.cons (.p _) (.cons (.p _) .nil)))) ?_
                    show Exists _
                    exact ⟨(v189), h, (fun i => i), ⟨(rA <| rA <| rA <| rA <| rA <| rA <| rA <| rA <| rA <| rA <| rA <| rA <| rA <| rA <| rA <| rA <| rA <| rA <| rA <| rA <| rA <| rA <| rA <| rA <| rA <| rA <| rA <| rA <| rA <| rA <| rA <| rA <| rA <| rA <| rA <| rA <| rA <| rA <| rA <| rA <| rA <| rA <| rA <| rA <| rA <| rA <| rA <| rA <| rA <| rA <| rA <| rA <| rA <| rA <| rA <| rA <| rA <| rA <| rA <| rA <| rA <| rA <| rA <| rA <| rA <| rA <| rA <| rA <| rA <| rA <| rA <| rA <| rA <| rA <| rA <| rA <| rE rfl <| rA <| rA <| rA <| rA <| rA <| rA <| rA <| rA <| rA <| rA <| rA <| rA <| rA <| rA <| rA <| rA <| rA <| rA <| rA <| rA <| rA <| rA <| rA <| rA <| rA <| rA <| rA <| rA <| rA <| rA <| rA <| rA <| rA <| rA <| rA <| rA <| rA <| rA <| rA <| rA <| rA <| rA <| rA <| rA <| rA <| rA <| rA <| rA <| rA <| rA <| rA <| rA <| rA <| rA <| rA <| rA <| rA <| rA <| rA <| rA <| rA <| rA <| rA <| rA <| rN), (hN), rfl, rfl, (roN)⟩⟩
                  · show Exists _
                    exact ⟨(false), h, (fun i => i), ⟨(rA <| rA <| rA <| rA <| rA <| rA <| rA <| rA <| rA <| rA <| rA <| rA <| rA <| rA <| rA <| rA <| rA <| rA <| rA <| rA <| rA <| rA <| rA <| rA <| rA <| rA <| rA <| rA <| rA <| rA <| rA <| rA <| rA <| rA <| rA <| rA <| rA <| rA <| rA <| rA <| rA <| rA <| rA <| rA <| rA <| rA <| rA <| rA <| rA <| rA <| rA <| rA <| rA <| rA <| rA <| rA <| rA <| rA <| rA <| rA <| rA <| rA <| rA <| rA <| rA <| rA <| rA <| rA <| rA <| rA <| rA <| rA <| rA <| rA <| rA <| rA <| rE rfl <| rA <| rA <| rA <| rA <| rA <| rA <| rA <| rA <| rA <| rA <| rA <| rA <| rA <| rA <| rA <| rA <| rA <| rA <| rA <| rA <| rA <| rA <| rA <| rA <| rA <| rA <| rA <| rA <| rA <| rA <| rA <| rA <| rA <| rA <| rA <| rA <| rA <| rA <| rA <| rA <| rA <| rA <| rA <| rA <| rA <| rA <| rA <| rA <| rA <| rA <| rA <| rA <| rA <| rA <| rA <| rA <| rA <| rA <| rA <| rA <| rA <| rA <| rA <| rA <| rN), (hN), rfl, rfl, (roN)⟩⟩
                · show Exists _
                  exact ⟨(false), h, (fun i => i), ⟨(rA <| rA <| rA <| rA <| rA <| rA <| rA <| rA <| rA <| rA <| rA <| rA <| rA <| rA <| rA <| rA <| rA <| rA <| rA <| rA <| rA <| rA <| rA <| rA <| rA <| rA <| rA <| rA <| rA <| rA <| rA <| rA <| rA <| rA <| rA <| rA <| rA <| rA <| rA <| rA <| rA <| rA <| rA <| rA <| rA <| rA <| rA <| rA <| rA <| rA <| rA <| rA <| rA <| rA <| rA <| rA <| rA <| rA <| rA <| rA <| rA <| rA <| rA <| rA <| rA <| rA <| rA <| rA <| rA <| rA <| rA <| rA <| rA <| rA <| rA <| rA <| rE rfl <| rA <| rA <| rA <| rA <| rA <| rA <| rA <| rA <| rA <| rA <| rA <| rA <| rA <| rA <| rA <| rA <| rA <| rA <| rA <| rA <| rA <| rA <| rA <| rA <| rA <| rA <| rA <| rA <| rA <| rA <| rA <| rA <| rA <| rA <| rA <| rA <| rA <| rA <| rA <| rA <| rA <| rA <| rA <| rA <| rA <| rA <| rA <| rA <| rA <| rA <| rA <| rA <| rA <| rA <| rA <| rA <| rA <| rA <| rA <| rA <| rA <| rA <| rA <| rA <| rN), (hN), rfl, rfl, (roN)⟩⟩
              · show Exists _
                exact ⟨(false), h, (fun i => i), ⟨(rA <| rA <| rA <| rA <| rA <| rA <| rA <| rA <| rA <| rA <| rA <| rA <| rA <| rA <| rA <| rA <| rA <| rA <| rA <| rA <| rA <| rA <| rA <| rA <| rA <| rA <| rA <| rA <| rA <| rA <| rA <| rA <| rA <| rA <| rA <| rA <| rA <| rA <| rA <| rA <| rA <| rA <| rA <| rA <| rA <| rA <| rA <| rA <| rA <| rA <| rA <| rA <| rA <| rA <| rA <| rA <| rA <| rA <| rA <| rA <| rA <| rA <| rA <| rA <| rA <| rA <| rA <| rA <| rA <| rA <| rA <| rA <| rA <| rA <| rA <| rA <| rE rfl <| rA <| rA <| rA <| rA <| rA <| rA <| rA <| rA <| rA <| rA <| rA <| rA <| rA <| rA <| rA <| rA <| rA <| rA <| rA <| rA <| rA <| rA <| rA <| rA <| rA <| rA <| rA <| rA <| rA <| rA <| rA <| rA <| rA <| rA <| rA <| rA <| rA <| rA <| rA <| rA <| rA <| rA <| rA <| rA <| rA <| rA <| rA <| rA <| rA <| rA <| rA <| rA <| rA <| rA <| rA <| rA <| rA <| rA <| rA <| rA <| rA <| rA <| rA <| rA <| rN), (hN), rfl, rfl, (roN)⟩⟩
        rintro s139 h
        dsimp only [F_polyglotref16_step_J4] at h
        show ev (EP _ _) _ (.any :: .any :: .any :: .any :: .any :: .any :: .any :: .any :: .any :: .any :: .any :: .any :: .any :: .any :: .any :: .any :: .any :: .any :: .any :: .any :: .any :: .any :: .any :: .any :: .any :: .any :: .any :: .any :: .any :: .any :: .any :: .any :: .any :: .any :: .any :: .any :: .any :: .any :: .any :: .any :: .any :: .any :: .any :: .any :: .any :: .any :: .any :: .any :: .any :: .any :: .any :: .any :: .any :: .any :: .any :: .any :: .any :: .any :: .any :: .any :: .any :: .any :: .any :: .any :: .any :: .any :: .any :: .any :: .any :: .any :: .any :: .any :: .any :: .any :: .any :: .any :: .p (.bool s139) :: .any :: .any :: .any :: .any :: .any :: .any :: .any :: .any :: .any :: .any :: .any :: .any :: .any :: .any :: .any :: .any :: .any :: .any :: .any :: .any :: .any :: .any :: .any :: .any :: .any :: .any :: .any :: .any :: .any :: .any :: .any :: .any :: .any :: .any :: .any :: .any :: .any :: .any :: .any :: .any :: .any :: .any :: .any :: .any :: .any :: .any :: .any :: .any :: .any :: .any :: .any :: .any :: .any :: .any :: .any :: .any :: .any :: .any :: .any :: .any :: .any :: .any :: .any :: .any :: []) ([]) _
        refine ifO h (fun hc191 h => ?_) (fun hc191 h => ?_)
        · have hr := someO h
          subst hr
          exact (.p _)
        · have hr := someO h
          subst hr
          exact (.p _)
def F_polyglotref16_utf8_L0 (N : Nat) (s_0 : List UInt8) : Nat → Int → Option (Bool)
  | 0, _ => none
  | n + 1, i10 =>
    cond (cmpI .lss i10 (s_0.length : Int))
    ((F_polyglotref16_step N s_0 i10).bind fun v12 =>
    cond (cmpI .eql v12 0)
    (some false)
    (F_polyglotref16_utf8_L0 N s_0 n (IntKind.wrap .i64 (i10 + v12))))
    (some true)
def F_polyglotref16_utf8 (N : Nat) (s_0 : List UInt8) : Option (Bool) :=
  F_polyglotref16_utf8_L0 N s_0 N 0
theorem F_polyglotref16_utf8_ok {N : Nat} {s_0 : List UInt8} {r : Bool} (h : F_polyglotref16_utf8 N s_0 = some r) : Pure Tryd.prog G1 86 [.str s_0] (.bool r) := by
  refine pure_of_ev k86 ?_
  unfold F_polyglotref16_utf8 at h
  refine loop_ren (σ := Nat × Int) (fun s => (.p (.str s_0) :: .any :: .any :: .p (.int .i64 s.2) :: .any :: .any :: .any :: .any :: .any :: .any :: .any :: .any :: .any :: .any :: .any :: .any :: .any :: [] : List AV)) (fun s => ([] : List AObj)) (fun s => F_polyglotref16_utf8_L0 N s_0 s.1 s.2 = some r) (fun s => s.1) (N, 0) h ⟨(fun i => i), ⟨(rE rfl <| rA <| rA <| rE rfl <| rA <| rA <| rA <| rA <| rA <| rA <| rA <| rA <| rA <| rA <| rA <| rA <| rA <| rN), (hN), rfl, rfl, (roN)⟩⟩ (fun _ _ => Nat.le_of_ble_eq_true rfl) ?_
  rintro ⟨n0, i10⟩ h
  rcases n0 with _ | n0
  · simp [F_polyglotref16_utf8_L0] at h
  simp only [F_polyglotref16_utf8_L0] at h
  show ev (EP _ _) _ (.p (.str s_0) :: .any :: .any :: .p (.int .i64 i10) :: .any :: .any :: .any :: .any :: .any :: .any :: .any :: .any :: .any :: .any :: .any :: .any :: .any :: []) ([]) _
  refine ifO h (fun hc11 h => ?_) (fun hc11 h => ?_)
  · obtain ⟨v12, hv13, h⟩ := bindO h
    refine call_pure (F_polyglotref16_step_ok hv13) (.cons (.p _) (.cons (.p _) .nil)) ?_
    refine ifO h (fun hc14 h => ?_) (fun hc14 h => ?_)
    · have hr := someO h
      subst hr
      exact (.p _)
    · show Exists _
      exact ⟨(n0, (IntKind.wrap .i64 (i10 + v12))), h, Nat.lt_succ_self _, (fun i => i), ⟨(rE rfl <| rA <| rA <| rE rfl <| rA <| rA <| rA <| rA <| rA <| rA <| rA <| rA <| rA <| rA <| rA <| rA <| rA <| rN), (hN), rfl, rfl, (roN)⟩⟩
  · have hr := someO h
    subst hr
    exact (.p _)
def F_polyglotref16_ascii_L0 (N : Nat) (s_0 : List UInt8) : Nat → Int → Option (Bool)
  | 0, _ => none
  | n + 1, i10 =>
    cond (cmpI .lss i10 (s_0.length : Int))
    ((idx s_0 i10).bind fun b12 =>
    cond (cmpI .geq (b12.toNat : Int) 128)
    (some false)
    (F_polyglotref16_ascii_L0 N s_0 n (IntKind.wrap .i64 (i10 + 1))))
    (some true)
def F_polyglotref16_ascii (N : Nat) (s_0 : List UInt8) : Option (Bool) :=
  F_polyglotref16_ascii_L0 N s_0 N 0
theorem F_polyglotref16_ascii_ok {N : Nat} {s_0 : List UInt8} {r : Bool} (h : F_polyglotref16_ascii N s_0 = some r) : Pure Tryd.prog G1 87 [.str s_0] (.bool r) := by
  refine pure_of_ev k87 ?_
  unfold F_polyglotref16_ascii at h
  refine loop_ren (σ := Nat × Int) (fun s => (.p (.str s_0) :: .any :: .any :: .p (.int .i64 s.2) :: .any :: .any :: .any :: .any :: .any :: .any :: .any :: .any :: .any :: .any :: [] : List AV)) (fun s => ([] : List AObj)) (fun s => F_polyglotref16_ascii_L0 N s_0 s.1 s.2 = some r) (fun s => s.1) (N, 0) h ⟨(fun i => i), ⟨(rE rfl <| rA <| rA <| rE rfl <| rA <| rA <| rA <| rA <| rA <| rA <| rA <| rA <| rA <| rA <| rN), (hN), rfl, rfl, (roN)⟩⟩ (fun _ _ => Nat.le_of_ble_eq_true rfl) ?_
  rintro ⟨n0, i10⟩ h
  rcases n0 with _ | n0
  · simp [F_polyglotref16_ascii_L0] at h
  simp only [F_polyglotref16_ascii_L0] at h
  show ev (EP _ _) _ (.p (.str s_0) :: .any :: .any :: .p (.int .i64 i10) :: .any :: .any :: .any :: .any :: .any :: .any :: .any :: .any :: .any :: .any :: []) ([]) _
  refine ifO h (fun hc11 h => ?_) (fun hc11 h => ?_)
  · obtain ⟨b12, hy13, h⟩ := bindO h
    refine idxP (x := b12) hy13 ?_
    refine ifO h (fun hc14 h => ?_) (fun hc14 h => ?_)
    · have hr := someO h
      subst hr
      exact (.p _)
    · show Exists _
      exact ⟨(n0, (IntKind.wrap .i64 (i10 + 1))), h, Nat.lt_succ_self _, (fun i => i), ⟨(rE rfl <| rA <| rA <| rE rfl <| rA <| rA <| rA <| rA <| rA <| rA <| rA <| rA <| rA <| rA <| rN), (hN), rfl, rfl, (roN)⟩⟩
  · have hr := someO h
    subst hr
    exact (.p _)
def F_polyglotref16_Check (N : Nat) (v : SValue) : Option (Int) :=
  cond (cmpI .eql v.Kind 15)
  (cond (cmpI .lss v.Kind 1)
  (some 8)
  (cond (cmpI .gtr v.Kind 21)
  (some 8)
  ((F_polyglotref16_ranged N v).bind fun v4 =>
  cond (!v4)
  (some 2)
  (cond (cmpI .gtr ((SValue.rows v.Items).length : Int) 0)
  (some 2)
  ((F_polyglotref16_texts N v.Kind).bind fun v8 =>
  cond (!v8)
  (cond (cmpS .neq v.Text [])
  (some 2)
  (cond (cmpI .neq (v.Text.length : Int) 16)
  (some 2)
  (cond (cmpI .gtr (v.Text.length : Int) 1048576)
  (some 4)
  (cond (cmpI .eql v.Kind 20)
  ((F_polyglotref16_utf8 N v.Text).bind fun v15 =>
  cond (!v15)
  (some 6)
  (cond (cmpI .eql v.Kind 21)
  ((F_polyglotref16_ascii N v.Text).bind fun v19 =>
  cond (!v19)
  (some 6)
  (some 0))
  (some 0)))
  (cond (cmpI .eql v.Kind 21)
  ((F_polyglotref16_ascii N v.Text).bind fun v23 =>
  cond (!v23)
  (some 6)
  (some 0))
  (some 0))))))
  (cond (cmpI .neq (v.Text.length : Int) 16)
  (some 2)
  (cond (cmpI .gtr (v.Text.length : Int) 1048576)
  (some 4)
  (cond (cmpI .eql v.Kind 20)
  ((F_polyglotref16_utf8 N v.Text).bind fun v29 =>
  cond (!v29)
  (some 6)
  (cond (cmpI .eql v.Kind 21)
  ((F_polyglotref16_ascii N v.Text).bind fun v33 =>
  cond (!v33)
  (some 6)
  (some 0))
  (some 0)))
  (cond (cmpI .eql v.Kind 21)
  ((F_polyglotref16_ascii N v.Text).bind fun v37 =>
  cond (!v37)
  (some 6)
  (some 0))
  (some 0))))))))))
  (cond (cmpI .lss v.Kind 1)
  (some 8)
  (cond (cmpI .gtr v.Kind 21)
  (some 8)
  ((F_polyglotref16_ranged N v).bind fun v42 =>
  cond (!v42)
  (some 2)
  (cond (cmpI .gtr ((SValue.rows v.Items).length : Int) 0)
  (some 2)
  ((F_polyglotref16_texts N v.Kind).bind fun v46 =>
  cond (!v46)
  (cond (cmpS .neq v.Text [])
  (some 2)
  (cond (cmpI .eql v.Kind 18)
  (cond (cmpI .neq (v.Text.length : Int) 16)
  (some 2)
  (cond (cmpI .gtr (v.Text.length : Int) 1048576)
  (some 4)
  (cond (cmpI .eql v.Kind 20)
  ((F_polyglotref16_utf8 N v.Text).bind fun v54 =>
  cond (!v54)
  (some 6)
  (cond (cmpI .eql v.Kind 21)
  ((F_polyglotref16_ascii N v.Text).bind fun v58 =>
  cond (!v58)
  (some 6)
  (some 0))
  (some 0)))
  (cond (cmpI .eql v.Kind 21)
  ((F_polyglotref16_ascii N v.Text).bind fun v62 =>
  cond (!v62)
  (some 6)
  (some 0))
  (some 0)))))
  (cond (cmpI .gtr (v.Text.length : Int) 1048576)
  (some 4)
  (cond (cmpI .eql v.Kind 20)
  ((F_polyglotref16_utf8 N v.Text).bind fun v67 =>
  cond (!v67)
  (some 6)
  (cond (cmpI .eql v.Kind 21)
  ((F_polyglotref16_ascii N v.Text).bind fun v71 =>
  cond (!v71)
  (some 6)
  (some 0))
  (some 0)))
  (cond (cmpI .eql v.Kind 21)
  ((F_polyglotref16_ascii N v.Text).bind fun v75 =>
  cond (!v75)
  (some 6)
  (some 0))
  (some 0))))))
  (cond (cmpI .eql v.Kind 18)
  (cond (cmpI .neq (v.Text.length : Int) 16)
  (some 2)
  (cond (cmpI .gtr (v.Text.length : Int) 1048576)
  (some 4)
  (cond (cmpI .eql v.Kind 20)
  ((F_polyglotref16_utf8 N v.Text).bind fun v82 =>
  cond (!v82)
  (some 6)
  (cond (cmpI .eql v.Kind 21)
  ((F_polyglotref16_ascii N v.Text).bind fun v86 =>
  cond (!v86)
  (some 6)
  (some 0))
  (some 0)))
  (cond (cmpI .eql v.Kind 21)
  ((F_polyglotref16_ascii N v.Text).bind fun v90 =>
  cond (!v90)
  (some 6)
  (some 0))
  (some 0)))))
  (cond (cmpI .gtr (v.Text.length : Int) 1048576)
  (some 4)
  (cond (cmpI .eql v.Kind 20)
  ((F_polyglotref16_utf8 N v.Text).bind fun v95 =>
  cond (!v95)
  (some 6)
  (cond (cmpI .eql v.Kind 21)
  ((F_polyglotref16_ascii N v.Text).bind fun v99 =>
  cond (!v99)
  (some 6)
  (some 0))
  (some 0)))
  (cond (cmpI .eql v.Kind 21)
  ((F_polyglotref16_ascii N v.Text).bind fun v103 =>
  cond (!v103)
  (some 6)
  (some 0))
  (some 0))))))))))
theorem F_polyglotref16_Check_ok {N : Nat} {v : SValue} {r : Int} (h : F_polyglotref16_Check N v = some r) : Pure Tryd.prog G1 43 [.agg (SValue.cells v)] (.int .i64 r) := by
  refine pure_of_ev k43 ?_
  unfold F_polyglotref16_Check at h
  refine ifO h (fun hc1 h => ?_) (fun hc1 h => ?_)
  · refine ifO h (fun hc2 h => ?_) (fun hc2 h => ?_)
    · have hr := someO h
      subst hr
      exact (.p _)
    · refine ifO h (fun hc3 h => ?_) (fun hc3 h => ?_)
      · have hr := someO h
        subst hr
        exact (.p _)
      · obtain ⟨v4, hv5, h⟩ := bindO h
        refine call_pure (F_polyglotref16_ranged_ok hv5) (.cons (Frz.agg' (.cons (.p _) (.cons (.p _) (.cons (.p _) (.cons (.p _) .nil))))) .nil) ?_
        refine ifO h (fun hc6 h => ?_) (fun hc6 h => ?_)
        · have hr := someO h
          subst hr
          exact (.p _)
        · refine ifO h (fun hc7 h => ?_) (fun hc7 h => ?_)
          · have hr := someO h
            subst hr
            exact (.p _)
          · obtain ⟨v8, hv9, h⟩ := bindO h
            refine call_pure (F_polyglotref16_texts_ok hv9) (.cons (.p _) .nil) ?_
            refine ifO h (fun hc10 h => ?_) (fun hc10 h => ?_)
            · refine ifO h (fun hc11 h => ?_) (fun hc11 h => ?_)
              · have hr := someO h
                subst hr
                exact (.p _)
              · refine ifO h (fun hc12 h => ?_) (fun hc12 h => ?_)
                · have hr := someO h
                  subst hr
                  exact (.p _)
                · refine ifO h (fun hc13 h => ?_) (fun hc13 h => ?_)
                  · have hr := someO h
                    subst hr
                    exact (.p _)
                  · refine ifO h (fun hc14 h => ?_) (fun hc14 h => ?_)
                    · obtain ⟨v15, hv16, h⟩ := bindO h
                      refine call_pure (F_polyglotref16_utf8_ok hv16) (.cons (.p _) .nil) ?_
                      refine ifO h (fun hc17 h => ?_) (fun hc17 h => ?_)
                      · have hr := someO h
                        subst hr
                        exact (.p _)
                      · refine ifO h (fun hc18 h => ?_) (fun hc18 h => ?_)
                        · obtain ⟨v19, hv20, h⟩ := bindO h
                          refine call_pure (F_polyglotref16_ascii_ok hv20) (.cons (.p _) .nil) ?_
                          refine ifO h (fun hc21 h => ?_) (fun hc21 h => ?_)
                          · have hr := someO h
                            subst hr
                            exact (.p _)
                          · have hr := someO h
                            subst hr
                            exact (.p _)
                        · have hr := someO h
                          subst hr
                          exact (.p _)
                    · refine ifO h (fun hc22 h => ?_) (fun hc22 h => ?_)
                      · obtain ⟨v23, hv24, h⟩ := bindO h
                        refine call_pure (F_polyglotref16_ascii_ok hv24) (.cons (.p _) .nil) ?_
                        refine ifO h (fun hc25 h => ?_) (fun hc25 h => ?_)
                        · have hr := someO h
                          subst hr
                          exact (.p _)
                        · have hr := someO h
                          subst hr
                          exact (.p _)
                      · have hr := someO h
                        subst hr
                        exact (.p _)
            · refine ifO h (fun hc26 h => ?_) (fun hc26 h => ?_)
              · have hr := someO h
                subst hr
                exact (.p _)
              · refine ifO h (fun hc27 h => ?_) (fun hc27 h => ?_)
                · have hr := someO h
                  subst hr
                  exact (.p _)
                · refine ifO h (fun hc28 h => ?_) (fun hc28 h => ?_)
                  · obtain ⟨v29, hv30, h⟩ := bindO h
                    refine call_pure (F_polyglotref16_utf8_ok hv30) (.cons (.p _) .nil) ?_
                    refine ifO h (fun hc31 h => ?_) (fun hc31 h => ?_)
                    · have hr := someO h
                      subst hr
                      exact (.p _)
                    · refine ifO h (fun hc32 h => ?_) (fun hc32 h => ?_)
                      · obtain ⟨v33, hv34, h⟩ := bindO h
                        refine call_pure (F_polyglotref16_ascii_ok hv34) (.cons (.p _) .nil) ?_
                        refine ifO h (fun hc35 h => ?_) (fun hc35 h => ?_)
                        · have hr := someO h
                          subst hr
                          exact (.p _)
                        · have hr := someO h
                          subst hr
                          exact (.p _)
                      · have hr := someO h
                        subst hr
                        exact (.p _)
                  · refine ifO h (fun hc36 h => ?_) (fun hc36 h => ?_)
                    · obtain ⟨v37, hv38, h⟩ := bindO h
                      refine call_pure (F_polyglotref16_ascii_ok hv38) (.cons (.p _) .nil) ?_
                      refine ifO h (fun hc39 h => ?_) (fun hc39 h => ?_)
                      · have hr := someO h
                        subst hr
                        exact (.p _)
                      · have hr := someO h
                        subst hr
                        exact (.p _)
                    · have hr := someO h
                      subst hr
                      exact (.p _)
  · refine ifO h (fun hc40 h => ?_) (fun hc40 h => ?_)
    · have hr := someO h
      subst hr
      exact (.p _)
    · refine ifO h (fun hc41 h => ?_) (fun hc41 h => ?_)
      · have hr := someO h
        subst hr
        exact (.p _)
      · obtain ⟨v42, hv43, h⟩ := bindO h
        refine call_pure (F_polyglotref16_ranged_ok hv43) (.cons (Frz.agg' (.cons (.p _) (.cons (.p _) (.cons (.p _) (.cons (.p _) .nil))))) .nil) ?_
        refine ifO h (fun hc44 h => ?_) (fun hc44 h => ?_)
        · have hr := someO h
          subst hr
          exact (.p _)
        · refine ifO h (fun hc45 h => ?_) (fun hc45 h => ?_)
          · have hr := someO h
            subst hr
            exact (.p _)
          · obtain ⟨v46, hv47, h⟩ := bindO h
            refine call_pure (F_polyglotref16_texts_ok hv47) (.cons (.p _) .nil) ?_
            refine ifO h (fun hc48 h => ?_) (fun hc48 h => ?_)
            · refine ifO h (fun hc49 h => ?_) (fun hc49 h => ?_)
              · have hr := someO h
                subst hr
                exact (.p _)
              · refine ifO h (fun hc50 h => ?_) (fun hc50 h => ?_)
                · refine ifO h (fun hc51 h => ?_) (fun hc51 h => ?_)
                  · have hr := someO h
                    subst hr
                    exact (.p _)
                  · refine ifO h (fun hc52 h => ?_) (fun hc52 h => ?_)
                    · have hr := someO h
                      subst hr
                      exact (.p _)
                    · refine ifO h (fun hc53 h => ?_) (fun hc53 h => ?_)
                      · obtain ⟨v54, hv55, h⟩ := bindO h
                        refine call_pure (F_polyglotref16_utf8_ok hv55) (.cons (.p _) .nil) ?_
                        refine ifO h (fun hc56 h => ?_) (fun hc56 h => ?_)
                        · have hr := someO h
                          subst hr
                          exact (.p _)
                        · refine ifO h (fun hc57 h => ?_) (fun hc57 h => ?_)
                          · obtain ⟨v58, hv59, h⟩ := bindO h
                            refine call_pure (F_polyglotref16_ascii_ok hv59) (.cons (.p _) .nil) ?_
                            refine ifO h (fun hc60 h => ?_) (fun hc60 h => ?_)
                            · have hr := someO h
                              subst hr
                              exact (.p _)
                            · have hr := someO h
                              subst hr
                              exact (.p _)
                          · have hr := someO h
                            subst hr
                            exact (.p _)
                      · refine ifO h (fun hc61 h => ?_) (fun hc61 h => ?_)
                        · obtain ⟨v62, hv63, h⟩ := bindO h
                          refine call_pure (F_polyglotref16_ascii_ok hv63) (.cons (.p _) .nil) ?_
                          refine ifO h (fun hc64 h => ?_) (fun hc64 h => ?_)
                          · have hr := someO h
                            subst hr
                            exact (.p _)
                          · have hr := someO h
                            subst hr
                            exact (.p _)
                        · have hr := someO h
                          subst hr
                          exact (.p _)
                · refine ifO h (fun hc65 h => ?_) (fun hc65 h => ?_)
                  · have hr := someO h
                    subst hr
                    exact (.p _)
                  · refine ifO h (fun hc66 h => ?_) (fun hc66 h => ?_)
                    · obtain ⟨v67, hv68, h⟩ := bindO h
                      refine call_pure (F_polyglotref16_utf8_ok hv68) (.cons (.p _) .nil) ?_
                      refine ifO h (fun hc69 h => ?_) (fun hc69 h => ?_)
                      · have hr := someO h
                        subst hr
                        exact (.p _)
                      · refine ifO h (fun hc70 h => ?_) (fun hc70 h => ?_)
                        · obtain ⟨v71, hv72, h⟩ := bindO h
                          refine call_pure (F_polyglotref16_ascii_ok hv72) (.cons (.p _) .nil) ?_
                          refine ifO h (fun hc73 h => ?_) (fun hc73 h => ?_)
                          · have hr := someO h
                            subst hr
                            exact (.p _)
                          · have hr := someO h
                            subst hr
                            exact (.p _)
                        · have hr := someO h
                          subst hr
                          exact (.p _)
                    · refine ifO h (fun hc74 h => ?_) (fun hc74 h => ?_)
                      · obtain ⟨v75, hv76, h⟩ := bindO h
                        refine call_pure (F_polyglotref16_ascii_ok hv76) (.cons (.p _) .nil) ?_
                        refine ifO h (fun hc77 h => ?_) (fun hc77 h => ?_)
                        · have hr := someO h
                          subst hr
                          exact (.p _)
                        · have hr := someO h
                          subst hr
                          exact (.p _)
                      · have hr := someO h
                        subst hr
                        exact (.p _)
            · refine ifO h (fun hc78 h => ?_) (fun hc78 h => ?_)
              · refine ifO h (fun hc79 h => ?_) (fun hc79 h => ?_)
                · have hr := someO h
                  subst hr
                  exact (.p _)
                · refine ifO h (fun hc80 h => ?_) (fun hc80 h => ?_)
                  · have hr := someO h
                    subst hr
                    exact (.p _)
                  · refine ifO h (fun hc81 h => ?_) (fun hc81 h => ?_)
                    · obtain ⟨v82, hv83, h⟩ := bindO h
                      refine call_pure (F_polyglotref16_utf8_ok hv83) (.cons (.p _) .nil) ?_
                      refine ifO h (fun hc84 h => ?_) (fun hc84 h => ?_)
                      · have hr := someO h
                        subst hr
                        exact (.p _)
                      · refine ifO h (fun hc85 h => ?_) (fun hc85 h => ?_)
                        · obtain ⟨v86, hv87, h⟩ := bindO h
                          refine call_pure (F_polyglotref16_ascii_ok hv87) (.cons (.p _) .nil) ?_
                          refine ifO h (fun hc88 h => ?_) (fun hc88 h => ?_)
                          · have hr := someO h
                            subst hr
                            exact (.p _)
                          · have hr := someO h
                            subst hr
                            exact (.p _)
                        · have hr := someO h
                          subst hr
                          exact (.p _)
                    · refine ifO h (fun hc89 h => ?_) (fun hc89 h => ?_)
                      · obtain ⟨v90, hv91, h⟩ := bindO h
                        refine call_pure (F_polyglotref16_ascii_ok hv91) (.cons (.p _) .nil) ?_
                        refine ifO h (fun hc92 h => ?_) (fun hc92 h => ?_)
                        · have hr := someO h
                          subst hr
                          exact (.p _)
                        · have hr := someO h
                          subst hr
                          exact (.p _)
                      · have hr := someO h
                        subst hr
                        exact (.p _)
              · refine ifO h (fun hc93 h => ?_) (fun hc93 h => ?_)
                · have hr := someO h
                  subst hr
                  exact (.p _)
                · refine ifO h (fun hc94 h => ?_) (fun hc94 h => ?_)
                  · obtain ⟨v95, hv96, h⟩ := bindO h
                    refine call_pure (F_polyglotref16_utf8_ok hv96) (.cons (.p _) .nil) ?_
                    refine ifO h (fun hc97 h => ?_) (fun hc97 h => ?_)
                    · have hr := someO h
                      subst hr
                      exact (.p _)
                    · refine ifO h (fun hc98 h => ?_) (fun hc98 h => ?_)
                      · obtain ⟨v99, hv100, h⟩ := bindO h
                        refine call_pure (F_polyglotref16_ascii_ok hv100) (.cons (.p _) .nil) ?_
                        refine ifO h (fun hc101 h => ?_) (fun hc101 h => ?_)
                        · have hr := someO h
                          subst hr
                          exact (.p _)
                        · have hr := someO h
                          subst hr
                          exact (.p _)
                      · have hr := someO h
                        subst hr
                        exact (.p _)
                  · refine ifO h (fun hc102 h => ?_) (fun hc102 h => ?_)
                    · obtain ⟨v103, hv104, h⟩ := bindO h
                      refine call_pure (F_polyglotref16_ascii_ok hv104) (.cons (.p _) .nil) ?_
                      refine ifO h (fun hc105 h => ?_) (fun hc105 h => ?_)
                      · have hr := someO h
                        subst hr
                        exact (.p _)
                      · have hr := someO h
                        subst hr
                        exact (.p _)
                    · have hr := someO h
                      subst hr
                      exact (.p _)
def F_polyglotref16_Fits (N : Nat) (code : Int) (v : SValue) : Option (Bool) :=
  (F_polyglotref16_Of N code).bind fun v1 =>
  cond (!v1.2)
  (some false)
  (cond (cmpI .neq v1.1.Kind v.Kind)
  (some false)
  ((F_polyglotref16_Check N v).bind fun v5 =>
  cond (cmpI .neq v5 0)
  (some false)
  (cond (cmpI .eql code 65)
  (some (cmpI .eql v.N' 1))
  (cond (cmpI .eql v1.1.Width 0)
  (some (cmpI .eql v.N' 0))
  (cond v1.1.Sized
  (cond (cmpI .eql v1.1.Width 1)
  (some (cmpI .lss (v.Text.length : Int) 256))
  (cond (cmpI .eql code 82)
  (some (cmpI .lss v.N' 256))
  (cond (cmpI .eql code 83)
  (some (cmpI .lss v.N' 256))
  (cond (cmpI .eql code 84)
  ((F_polyglotref16_signed N v.N' 8).bind fun v15 =>
  some v15)
  (cond (cmpI .eql code 85)
  ((F_polyglotref16_signed N v.N' 8).bind fun v18 =>
  some v18)
  (some true))))))
  (cond (cmpI .eql code 82)
  (some (cmpI .lss v.N' 256))
  (cond (cmpI .eql code 83)
  (some (cmpI .lss v.N' 256))
  (cond (cmpI .eql code 84)
  ((F_polyglotref16_signed N v.N' 8).bind fun v23 =>
  some v23)
  (cond (cmpI .eql code 85)
  ((F_polyglotref16_signed N v.N' 8).bind fun v26 =>
  some v26)
  (some true))))))))))
theorem F_polyglotref16_Fits_ok {N : Nat} {code : Int} {v : SValue} {r : Bool} (h : F_polyglotref16_Fits N code v = some r) : Pure Tryd.prog G1 44 [.int .i64 code, .agg (SValue.cells v)] (.bool r) := by
  refine pure_of_ev k44 ?_
  unfold F_polyglotref16_Fits at h
  obtain ⟨v1, hv2, h⟩ := bindO h
  refine call_pure (F_polyglotref16_Of_ok hv2) (.cons (.p _) .nil) ?_
  refine ifO h (fun hc3 h => ?_) (fun hc3 h => ?_)
  · have hr := someO h
    subst hr
    exact (.p _)
  · refine ifO h (fun hc4 h => ?_) (fun hc4 h => ?_)
    · have hr := someO h
      subst hr
      exact (.p _)
    · obtain ⟨v5, hv6, h⟩ := bindO h
      refine call_pure (F_polyglotref16_Check_ok hv6) (.cons (Frz.agg' (.cons (.p _) (.cons (.p _) (.cons (.p _) (.cons (.p _) .nil))))) .nil) ?_
      refine ifO h (fun hc7 h => ?_) (fun hc7 h => ?_)
      · have hr := someO h
        subst hr
        exact (.p _)
      · refine ifO h (fun hc8 h => ?_) (fun hc8 h => ?_)
        · have hr := someO h
          subst hr
          exact (.p _)
        · refine ifO h (fun hc9 h => ?_) (fun hc9 h => ?_)
          · have hr := someO h
            subst hr
            exact (.p _)
          · refine ifO h (fun hc10 h => ?_) (fun hc10 h => ?_)
            · refine ifO h (fun hc11 h => ?_) (fun hc11 h => ?_)
              · have hr := someO h
                subst hr
                exact (.p _)
              · refine ifO h (fun hc12 h => ?_) (fun hc12 h => ?_)
                · have hr := someO h
                  subst hr
                  exact (.p _)
                · refine ifO h (fun hc13 h => ?_) (fun hc13 h => ?_)
                  · have hr := someO h
                    subst hr
                    exact (.p _)
                  · refine ifO h (fun hc14 h => ?_) (fun hc14 h => ?_)
                    · obtain ⟨v15, hv16, h⟩ := bindO h
                      refine call_pure (F_polyglotref16_signed_ok hv16) (.cons (.p _) (.cons (.p _) .nil)) ?_
                      have hr := someO h
                      subst hr
                      exact (.p _)
                    · refine ifO h (fun hc17 h => ?_) (fun hc17 h => ?_)
                      · obtain ⟨v18, hv19, h⟩ := bindO h
                        refine call_pure (F_polyglotref16_signed_ok hv19) (.cons (.p _) (.cons (.p _) .nil)) ?_
                        have hr := someO h
                        subst hr
                        exact (.p _)
                      · have hr := someO h
                        subst hr
                        exact (.p _)
            · refine ifO h (fun hc20 h => ?_) (fun hc20 h => ?_)
              · have hr := someO h
                subst hr
                exact (.p _)
              · refine ifO h (fun hc21 h => ?_) (fun hc21 h => ?_)
                · have hr := someO h
                  subst hr
                  exact (.p _)
                · refine ifO h (fun hc22 h => ?_) (fun hc22 h => ?_)
                  · obtain ⟨v23, hv24, h⟩ := bindO h
                    refine call_pure (F_polyglotref16_signed_ok hv24) (.cons (.p _) (.cons (.p _) .nil)) ?_
                    have hr := someO h
                    subst hr
                    exact (.p _)
                  · refine ifO h (fun hc25 h => ?_) (fun hc25 h => ?_)
                    · obtain ⟨v26, hv27, h⟩ := bindO h
                      refine call_pure (F_polyglotref16_signed_ok hv27) (.cons (.p _) (.cons (.p _) .nil)) ?_
                      have hr := someO h
                      subst hr
                      exact (.p _)
                    · have hr := someO h
                      subst hr
                      exact (.p _)
def F_polyglotref16_Least_L0 (N : Nat) (v : SValue) (v4 : List Int) : Nat → Int → Option (Int × Int)
  | 0, _ => none
  | n + 1, i23 =>
    cond (cmpI .lss i23 ((rowsC (cI .i64) v4).length : Int))
    ((idx v4 i23).bind fun y25 =>
    (F_polyglotref16_Fits N y25 v).bind fun v27 =>
    cond v27
    ((idx v4 i23).bind fun y30 =>
    some (y30, 0))
    (F_polyglotref16_Least_L0 N v v4 n (IntKind.wrap .i64 (i23 + 1))))
    (some (0, 2))
def F_polyglotref16_Least (N : Nat) (v : SValue) : Option (Int × Int) :=
  (F_polyglotref16_Check N v).bind fun v1 =>
  cond (cmpI .neq v1 0)
  (some (0, v1))
  ((F_polyglotref16_Codes N v.Kind).bind fun v4 =>
  F_polyglotref16_Least_L0 N v v4 N 0)
theorem F_polyglotref16_Least_ok {N : Nat} {v : SValue} {r : Int × Int} (h : F_polyglotref16_Least N v = some r) : Pure Tryd.prog G1 39 [.agg (SValue.cells v)] (.tuple [.int .i64 r.1, .int .i64 r.2]) := by
  refine pure_of_ev k39 ?_
  unfold F_polyglotref16_Least at h
  obtain ⟨v1, hv2, h⟩ := bindO h
  refine call_pure (F_polyglotref16_Check_ok hv2) (.cons (Frz.agg' (.cons (.p _) (.cons (.p _) (.cons (.p _) (.cons (.p _) .nil))))) .nil) ?_
  refine ifO h (fun hc3 h => ?_) (fun hc3 h => ?_)
  · have hr := someO h
    subst hr
    exact (Frz.tuple' (.cons (.p _) (.cons (.p _) .nil)))
  · obtain ⟨v4, hv5, h⟩ := bindO h
    refine call_pure (F_polyglotref16_Codes_ok hv5) (.cons (.p _) .nil) ?_
    refine loop_ren (σ := Nat × Int) (fun s => (.any :: .ptr 0 0 :: .any :: .any :: .any :: .p (.slice 1 (rowsC (cI .i64) v4)) :: .p (.int .i64 s.2) :: .any :: .any :: .any :: .any :: .any :: .any :: .any :: .any :: .any :: .any :: .any :: .any :: .any :: .any :: .any :: .any :: .any :: .any :: .any :: .any :: .any :: .any :: .any :: .any :: [] : List AV)) (fun s => (.cells (.p (.int .i64 v.Kind) :: .p (.int .u64 v.N') :: .p (.str v.Text) :: .p (.slice 4 (SValue.rows v.Items)) :: []) :: [] : List AObj)) (fun s => F_polyglotref16_Least_L0 N v v4 s.1 s.2 = some r) (fun s => s.1) (N, 0) h ⟨(fun i => i), ⟨(rA <| rE rfl <| rA <| rA <| rA <| rE rfl <| rE rfl <| rA <| rA <| rA <| rA <| rA <| rA <| rA <| rA <| rA <| rA <| rA <| rA <| rA <| rA <| rA <| rA <| rA <| rA <| rA <| rA <| rA <| rA <| rA <| rA <| rN), (hE rfl <| hN), rfl, rfl, (roE rfl <| roN)⟩⟩ (fun _ _ => Nat.le_of_ble_eq_true rfl) ?_
    rintro ⟨n0, i23⟩ h
    rcases n0 with _ | n0
    · simp [F_polyglotref16_Least_L0] at h
    simp only [F_polyglotref16_Least_L0] at h
    show ev (EP _ _) _ (.any :: .ptr 0 0 :: .any :: .any :: .any :: .p (.slice 1 (rowsC (cI .i64) v4)) :: .p (.int .i64 i23) :: .any :: .any :: .any :: .any :: .any :: .any :: .any :: .any :: .any :: .any :: .any :: .any :: .any :: .any :: .any :: .any :: .any :: .any :: .any :: .any :: .any :: .any :: .any :: .any :: []) (.cells (.p (.int .i64 v.Kind) :: .p (.int .u64 v.N') :: .p (.str v.Text) :: .p (.slice 4 (SValue.rows v.Items)) :: []) :: []) _
    refine ifO h (fun hc24 h => ?_) (fun hc24 h => ?_)
    · refine draw_rule ?_
      obtain ⟨y25, hy26, h⟩ := bindO h
      refine idxP (x := [.int .i64 y25]) (idx_rows hy26) ?_
      obtain ⟨v27, hv28, h⟩ := bindO h
      refine dcall_pure (F_polyglotref16_Fits_ok hv28) (.cons (.p _) (.cons (Frz.agg' (.cons (.p _) (.cons (.p _) (.cons (.p _) (.cons (.p _) .nil))))) .nil)) ?_
      refine ifO h (fun hc29 h => ?_) (fun hc29 h => ?_)
      · obtain ⟨y30, hy31, h⟩ := bindO h
        refine idxP (x := [.int .i64 y30]) (idx_rows hy31) ?_
        have hr := someO h
        subst hr
        exact (Frz.tuple' (.cons (.p _) (.cons (.p _) .nil)))
      · show Exists _
        exact ⟨(n0, (IntKind.wrap .i64 (i23 + 1))), h, Nat.lt_succ_self _, (fun i => i), ⟨(rA <| rE rfl <| rA <| rA <| rA <| rE rfl <| rE rfl <| rA <| rA <| rA <| rA <| rA <| rA <| rA <| rA <| rA <| rA <| rA <| rA <| rA <| rA <| rA <| rA <| rA <| rA <| rA <| rA <| rA <| rA <| rA <| rA <| rN), (hE rfl <| hN), rfl, rfl, (roE rfl <| roN)⟩⟩
    · have hr := someO h
      subst hr
      exact (Frz.tuple' (.cons (.p _) (.cons (.p _) .nil)))
def F_polyglotref16_Big_L0 (N : Nat) (width : Int) : Nat → Int → (List UInt8) → Int → Option (List UInt8)
  | 0, _, _, _ => none
  | n + 1, n8, out9, i10 =>
    cond (cmpI .lss i10 width)
    (cond (Nat.ble ([UInt8.ofNat (IntKind.wrap .u8 n8).toNat].length + out9.length) 4611686018427387904) (F_polyglotref16_Big_L0 N width n (shrI .u64 n8 8) ([UInt8.ofNat (IntKind.wrap .u8 n8).toNat] ++ out9) (IntKind.wrap .i64 (i10 + 1))) none)
    (some out9)
def F_polyglotref16_Big (N : Nat) (n_0 : Int) (width : Int) : Option (List UInt8) :=
  F_polyglotref16_Big_L0 N width N n_0 [] 0
theorem F_polyglotref16_Big_ok {N : Nat} {n_0 : Int} {width : Int} {r : List UInt8} (h : F_polyglotref16_Big N n_0 width = some r) : Pure Tryd.prog G1 27 [.int .u64 n_0, .int .i64 width] (.str r) := by
  refine pure_of_ev k27 ?_
  unfold F_polyglotref16_Big at h
  refine loop_ren (σ := Nat × Int × (List UInt8) × Int) (fun s => (.p (.int .u64 s.2.1) :: .p (.int .i64 width) :: .any :: .any :: .any :: .p (.str s.2.2.1) :: .p (.int .i64 s.2.2.2) :: .any :: .any :: .any :: .any :: .any :: .any :: .any :: .any :: .any :: .any :: .any :: .any :: .any :: .any :: [] : List AV)) (fun s => ([] : List AObj)) (fun s => F_polyglotref16_Big_L0 N width s.1 s.2.1 s.2.2.1 s.2.2.2 = some r) (fun s => s.1) (N, n_0, [], 0) h ⟨(fun i => i), ⟨(rE rfl <| rE rfl <| rA <| rA <| rA <| rE rfl <| rE rfl <| rA <| rA <| rA <| rA <| rA <| rA <| rA <| rA <| rA <| rA <| rA <| rA <| rA <| rA <| rN), (hN), rfl, rfl, (roN)⟩⟩ (fun _ _ => Nat.le_of_ble_eq_true rfl) ?_
  rintro ⟨n0, n8, out9, i10⟩ h
  rcases n0 with _ | n0
  · simp [F_polyglotref16_Big_L0] at h
  simp only [F_polyglotref16_Big_L0] at h
  show ev (EP _ _) _ (.p (.int .u64 n8) :: .p (.int .i64 width) :: .any :: .any :: .any :: .p (.str out9) :: .p (.int .i64 i10) :: .any :: .any :: .any :: .any :: .any :: .any :: .any :: .any :: .any :: .any :: .any :: .any :: .any :: .any :: []) ([]) _
  refine ifO h (fun hc11 h => ?_) (fun hc11 h => ?_)
  · obtain ⟨hk12, h⟩ := chkO h
    refine chkP hk12 ?_
    show Exists _
    exact ⟨(n0, (shrI .u64 n8 8), ([UInt8.ofNat (IntKind.wrap .u8 n8).toNat] ++ out9), (IntKind.wrap .i64 (i10 + 1))), h, Nat.lt_succ_self _, (fun i => i), ⟨(rE rfl <| rE rfl <| rA <| rA <| rA <| rE rfl <| rE rfl <| rA <| rA <| rA <| rA <| rA <| rA <| rA <| rA <| rA <| rA <| rA <| rA <| rA <| rA <| rN), (hN), rfl, rfl, (roN)⟩⟩
  · have hr := someO h
    subst hr
    exact (.p _)
def F_polyglotref16_Put (N : Nat) (code : Int) (v : SValue) : Option ((List UInt8) × Int) :=
  (F_polyglotref16_Check N v).bind fun v1 =>
  cond (cmpI .neq v1 0)
  (some ([], v1))
  ((F_polyglotref16_Fits N code v).bind fun v4 =>
  cond (!v4)
  (some ([], 2))
  ((F_polyglotref16_Of N code).bind fun v7 =>
  cond v7.1.Sized
  ((F_polyglotref16_Big N (IntKind.wrap .u64 (v.Text.length : Int)) v7.1.Width).bind fun v10 =>
  cond (Nat.ble (v10.length + v.Text.length) 4611686018427387904) (some ((v10 ++ v.Text), 0)) none)
  (cond (cmpI .eql v7.1.Width 16)
  (some (v.Text, 0))
  ((F_polyglotref16_Big N v.N' v7.1.Width).bind fun v14 =>
  some (v14, 0)))))
theorem F_polyglotref16_Put_ok {N : Nat} {code : Int} {v : SValue} {r : (List UInt8) × Int} (h : F_polyglotref16_Put N code v = some r) : Pure Tryd.prog G1 40 [.int .i64 code, .agg (SValue.cells v)] (.tuple [.str r.1, .int .i64 r.2]) := by
  refine pure_of_ev k40 ?_
  unfold F_polyglotref16_Put at h
  obtain ⟨v1, hv2, h⟩ := bindO h
  refine call_pure (F_polyglotref16_Check_ok hv2) (.cons (Frz.agg' (.cons (.p _) (.cons (.p _) (.cons (.p _) (.cons (.p _) .nil))))) .nil) ?_
  refine ifO h (fun hc3 h => ?_) (fun hc3 h => ?_)
  · have hr := someO h
    subst hr
    exact (Frz.tuple' (.cons (.p _) (.cons (.p _) .nil)))
  · obtain ⟨v4, hv5, h⟩ := bindO h
    refine call_pure (F_polyglotref16_Fits_ok hv5) (.cons (.p _) (.cons (Frz.agg' (.cons (.p _) (.cons (.p _) (.cons (.p _) (.cons (.p _) .nil))))) .nil)) ?_
    refine ifO h (fun hc6 h => ?_) (fun hc6 h => ?_)
    · have hr := someO h
      subst hr
      exact (Frz.tuple' (.cons (.p _) (.cons (.p _) .nil)))
    · obtain ⟨v7, hv8, h⟩ := bindO h
      refine call_pure (F_polyglotref16_Of_ok hv8) (.cons (.p _) .nil) ?_
      refine ifO h (fun hc9 h => ?_) (fun hc9 h => ?_)
      · refine draw_rule ?_
        obtain ⟨v10, hv11, h⟩ := bindO h
        refine dcall_pure (F_polyglotref16_Big_ok hv11) (.cons (.p _) (.cons (.p _) .nil)) ?_
        obtain ⟨hk12, h⟩ := chkO h
        refine chkP hk12 ?_
        have hr := someO h
        subst hr
        exact (Frz.tuple' (.cons (.p _) (.cons (.p _) .nil)))
      · refine ifO h (fun hc13 h => ?_) (fun hc13 h => ?_)
        · have hr := someO h
          subst hr
          exact (Frz.tuple' (.cons (.p _) (.cons (.p _) .nil)))
        · obtain ⟨v14, hv15, h⟩ := bindO h
          refine call_pure (F_polyglotref16_Big_ok hv15) (.cons (.p _) (.cons (.p _) .nil)) ?_
          have hr := someO h
          subst hr
          exact (Frz.tuple' (.cons (.p _) (.cons (.p _) .nil)))
def F_polyglotref16_Number_L0 (N : Nat) (s_0 : List UInt8) : Nat → Int → Int → Option (Int)
  | 0, _, _ => none
  | n + 1, n9, i10 =>
    cond (cmpI .lss i10 (s_0.length : Int))
    ((idx s_0 i10).bind fun b12 =>
    F_polyglotref16_Number_L0 N s_0 n (orI .u64 (shlI .u64 n9 8) (IntKind.wrap .u64 (b12.toNat : Int))) (IntKind.wrap .i64 (i10 + 1)))
    (some n9)
def F_polyglotref16_Number (N : Nat) (s_0 : List UInt8) : Option (Int) :=
  F_polyglotref16_Number_L0 N s_0 N 0 0
theorem F_polyglotref16_Number_ok {N : Nat} {s_0 : List UInt8} {r : Int} (h : F_polyglotref16_Number N s_0 = some r) : Pure Tryd.prog G1 82 [.str s_0] (.int .u64 r) := by
  refine pure_of_ev k82 ?_
  unfold F_polyglotref16_Number at h
  refine loop_ren (σ := Nat × Int × Int) (fun s => (.p (.str s_0) :: .any :: .any :: .p (.int .u64 s.2.1) :: .p (.int .i64 s.2.2) :: .any :: .any :: .any :: .any :: .any :: .any :: .any :: .any :: .any :: .any :: .any :: .any :: .any :: .any :: [] : List AV)) (fun s => ([] : List AObj)) (fun s => F_polyglotref16_Number_L0 N s_0 s.1 s.2.1 s.2.2 = some r) (fun s => s.1) (N, 0, 0) h ⟨(fun i => i), ⟨(rE rfl <| rA <| rA <| rE rfl <| rE rfl <| rA <| rA <| rA <| rA <| rA <| rA <| rA <| rA <| rA <| rA <| rA <| rA <| rA <| rA <| rN), (hN), rfl, rfl, (roN)⟩⟩ (fun _ _ => Nat.le_of_ble_eq_true rfl) ?_
  rintro ⟨n0, n9, i10⟩ h
  rcases n0 with _ | n0
  · simp [F_polyglotref16_Number_L0] at h
  simp only [F_polyglotref16_Number_L0] at h
  show ev (EP _ _) _ (.p (.str s_0) :: .any :: .any :: .p (.int .u64 n9) :: .p (.int .i64 i10) :: .any :: .any :: .any :: .any :: .any :: .any :: .any :: .any :: .any :: .any :: .any :: .any :: .any :: .any :: []) ([]) _
  refine ifO h (fun hc11 h => ?_) (fun hc11 h => ?_)
  · obtain ⟨b12, hy13, h⟩ := bindO h
    refine idxP (x := b12) hy13 ?_
    show Exists _
    exact ⟨(n0, (orI .u64 (shlI .u64 n9 8) (IntKind.wrap .u64 (b12.toNat : Int))), (IntKind.wrap .i64 (i10 + 1))), h, Nat.lt_succ_self _, (fun i => i), ⟨(rE rfl <| rA <| rA <| rE rfl <| rE rfl <| rA <| rA <| rA <| rA <| rA <| rA <| rA <| rA <| rA <| rA <| rA <| rA <| rA <| rA <| rN), (hN), rfl, rfl, (roN)⟩⟩
  · have hr := someO h
    subst hr
    exact (.p _)
def F_polyglotref16_whole (N : Nat) (n_0 : Int) (kind : Int) (width : Int) : Option (Int) :=
  (F_polyglotref16_bits N kind).bind fun v1 =>
  cond (cmpI .lss v1 0)
  (cond (decide (0 ≤ (IntKind.wrap .u64 (IntKind.wrap .i64 ((IntKind.wrap .i64 (8 * width)) - 1))))) (cond (cmpI .geq n_0 (shlI .u64 1 (IntKind.wrap .u64 (IntKind.wrap .i64 ((IntKind.wrap .i64 (8 * width)) - 1)))))
  (some (IntKind.wrap .u64 ((IntKind.wrap .u64 (n_0 - (shlI .u64 1 (IntKind.wrap .u64 (IntKind.wrap .i64 ((IntKind.wrap .i64 (8 * width)) - 1)))))) - (shlI .u64 1 (IntKind.wrap .u64 (IntKind.wrap .i64 ((IntKind.wrap .i64 (8 * width)) - 1)))))))
  (some n_0)) none)
  (cond (cmpI .eql kind 10)
  (cond (decide (0 ≤ (IntKind.wrap .u64 (IntKind.wrap .i64 ((IntKind.wrap .i64 (8 * width)) - 1))))) (cond (cmpI .geq n_0 (shlI .u64 1 (IntKind.wrap .u64 (IntKind.wrap .i64 ((IntKind.wrap .i64 (8 * width)) - 1)))))
  (some (IntKind.wrap .u64 ((IntKind.wrap .u64 (n_0 - (shlI .u64 1 (IntKind.wrap .u64 (IntKind.wrap .i64 ((IntKind.wrap .i64 (8 * width)) - 1)))))) - (shlI .u64 1 (IntKind.wrap .u64 (IntKind.wrap .i64 ((IntKind.wrap .i64 (8 * width)) - 1)))))))
  (some n_0)) none)
  (some n_0))
theorem F_polyglotref16_whole_ok {N : Nat} {n_0 : Int} {kind : Int} {width : Int} {r : Int} (h : F_polyglotref16_whole N n_0 kind width = some r) : Pure Tryd.prog G1 83 [.int .u64 n_0, .int .i64 kind, .int .i64 width] (.int .u64 r) := by
  refine pure_of_ev k83 ?_
  unfold F_polyglotref16_whole at h
  obtain ⟨v1, hv2, h⟩ := bindO h
  refine call_pure (F_polyglotref16_bits_ok hv2) (.cons (.p _) .nil) ?_
  refine ifO h (fun hc3 h => ?_) (fun hc3 h => ?_)
  · obtain ⟨hk4, h⟩ := chkO h
    refine chkP hk4 ?_
    refine ifO h (fun hc5 h => ?_) (fun hc5 h => ?_)
    · have hr := someO h
      subst hr
      exact (.p _)
    · have hr := someO h
      subst hr
      exact (.p _)
  · refine ifO h (fun hc6 h => ?_) (fun hc6 h => ?_)
    · obtain ⟨hk7, h⟩ := chkO h
      refine chkP hk7 ?_
      refine ifO h (fun hc8 h => ?_) (fun hc8 h => ?_)
      · have hr := someO h
        subst hr
        exact (.p _)
      · have hr := someO h
        subst hr
        exact (.p _)
    · have hr := someO h
      subst hr
      exact (.p _)
def F_polyglotref16_Get (N : Nat) (code : Int) (s_1 : List UInt8) : Option (SValue × Int × Int) :=
  (F_polyglotref16_Of N code).bind fun v1 =>
  cond (!v1.2)
  (some ((⟨0, 0, [], []⟩ : SValue), 0, 8))
  (cond v1.1.Items
  (some ((⟨0, 0, [], []⟩ : SValue), 0, 8))
  (cond (cmpI .lss (s_1.length : Int) v1.1.Width)
  (some ((⟨0, 0, [], []⟩ : SValue), 0, 3))
  (cond v1.1.Sized
  (cond (decide (0 ≤ v1.1.Width)) (cond (Nat.ble 0 v1.1.Width.toNat && Nat.ble v1.1.Width.toNat s_1.length) ((F_polyglotref16_Number N ((s_1.take v1.1.Width.toNat).drop 0)).bind fun v9 =>
  cond (cmpI .gtr v9 (IntKind.wrap .u64 (IntKind.wrap .i64 ((s_1.length : Int) - v1.1.Width))))
  (some ((⟨0, 0, [], []⟩ : SValue), 0, 3))
  (cond (decide (0 ≤ (IntKind.wrap .i64 (v1.1.Width + (IntKind.wrap .i64 v9))))) (cond (Nat.ble v1.1.Width.toNat ((IntKind.wrap .i64 (v1.1.Width + (IntKind.wrap .i64 v9))).toNat) && Nat.ble ((IntKind.wrap .i64 (v1.1.Width + (IntKind.wrap .i64 v9))).toNat) s_1.length) ((F_polyglotref16_Check N (⟨v1.1.Kind, 0, ((s_1.take ((IntKind.wrap .i64 (v1.1.Width + (IntKind.wrap .i64 v9))).toNat)).drop v1.1.Width.toNat), []⟩ : SValue)).bind fun v14 =>
  cond (cmpI .eql v14 2)
  (some ((⟨0, 0, [], []⟩ : SValue), 0, 5))
  (cond (cmpI .neq v14 0)
  (some ((⟨0, 0, [], []⟩ : SValue), 0, v14))
  (some ((⟨v1.1.Kind, 0, ((s_1.take ((IntKind.wrap .i64 (v1.1.Width + (IntKind.wrap .i64 v9))).toNat)).drop v1.1.Width.toNat), []⟩ : SValue), (IntKind.wrap .i64 (v1.1.Width + (IntKind.wrap .i64 v9))), 0)))) none) none)) none) none)
  (cond (cmpI .eql v1.1.Width 16)
  (cond (Nat.ble 0 16 && Nat.ble 16 s_1.length) ((F_polyglotref16_Check N (⟨v1.1.Kind, 0, ((s_1.take 16).drop 0), []⟩ : SValue)).bind fun v20 =>
  cond (cmpI .eql v20 2)
  (some ((⟨0, 0, [], []⟩ : SValue), 0, 5))
  (cond (cmpI .neq v20 0)
  (some ((⟨0, 0, [], []⟩ : SValue), 0, v20))
  (some ((⟨v1.1.Kind, 0, ((s_1.take 16).drop 0), []⟩ : SValue), v1.1.Width, 0)))) none)
  (cond (cmpI .eql code 65)
  ((F_polyglotref16_Check N (⟨v1.1.Kind, 1, [], []⟩ : SValue)).bind fun v25 =>
  cond (cmpI .eql v25 2)
  (some ((⟨0, 0, [], []⟩ : SValue), 0, 5))
  (cond (cmpI .neq v25 0)
  (some ((⟨0, 0, [], []⟩ : SValue), 0, v25))
  (some ((⟨v1.1.Kind, 1, [], []⟩ : SValue), v1.1.Width, 0))))
  (cond (cmpI .gtr v1.1.Width 0)
  (cond (decide (0 ≤ v1.1.Width)) (cond (Nat.ble 0 v1.1.Width.toNat && Nat.ble v1.1.Width.toNat s_1.length) ((F_polyglotref16_Number N ((s_1.take v1.1.Width.toNat).drop 0)).bind fun v32 =>
  (F_polyglotref16_whole N v32 v1.1.Kind v1.1.Width).bind fun v34 =>
  (F_polyglotref16_Check N (⟨v1.1.Kind, v34, [], []⟩ : SValue)).bind fun v36 =>
  cond (cmpI .eql v36 2)
  (some ((⟨0, 0, [], []⟩ : SValue), 0, 5))
  (cond (cmpI .neq v36 0)
  (some ((⟨0, 0, [], []⟩ : SValue), 0, v36))
  (some ((⟨v1.1.Kind, v34, [], []⟩ : SValue), v1.1.Width, 0)))) none) none)
  ((F_polyglotref16_Check N (⟨v1.1.Kind, 0, [], []⟩ : SValue)).bind fun v40 =>
  cond (cmpI .eql v40 2)
  (some ((⟨0, 0, [], []⟩ : SValue), 0, 5))
  (cond (cmpI .neq v40 0)
  (some ((⟨0, 0, [], []⟩ : SValue), 0, v40))
  (some ((⟨v1.1.Kind, 0, [], []⟩ : SValue), v1.1.Width, 0))))))))))
theorem F_polyglotref16_Get_ok {N : Nat} {code : Int} {s_1 : List UInt8} {r : SValue × Int × Int} (h : F_polyglotref16_Get N code s_1 = some r) : Pure Tryd.prog G1 41 [.int .i64 code, .str s_1] (.tuple [.agg (SValue.cells r.1), .int .i64 r.2.1, .int .i64 r.2.2]) := by
  refine pure_of_ev k41 ?_
  unfold F_polyglotref16_Get at h
  obtain ⟨v1, hv2, h⟩ := bindO h
  refine call_pure (F_polyglotref16_Of_ok hv2) (.cons (.p _) .nil) ?_
  refine ifO h (fun hc3 h => ?_) (fun hc3 h => ?_)
  · have hr := someO h
    subst hr
    exact (Frz.tuple' (.cons (Frz.agg' (.cons (.p _) (.cons (.p _) (.cons (.p _) (.cons (.nil _) .nil))))) (.cons (.p _) (.cons (.p _) .nil))))
  · refine ifO h (fun hc4 h => ?_) (fun hc4 h => ?_)
    · have hr := someO h
      subst hr
      exact (Frz.tuple' (.cons (Frz.agg' (.cons (.p _) (.cons (.p _) (.cons (.p _) (.cons (.nil _) .nil))))) (.cons (.p _) (.cons (.p _) .nil))))
    · refine ifO h (fun hc5 h => ?_) (fun hc5 h => ?_)
      · have hr := someO h
        subst hr
        exact (Frz.tuple' (.cons (Frz.agg' (.cons (.p _) (.cons (.p _) (.cons (.p _) (.cons (.nil _) .nil))))) (.cons (.p _) (.cons (.p _) .nil))))
      · refine ifO h (fun hc6 h => ?_) (fun hc6 h => ?_)
        · obtain ⟨hk7, h⟩ := chkO h
          refine chkP hk7 ?_
          obtain ⟨hk8, h⟩ := chkO h
          refine chkP hk8 ?_
          obtain ⟨v9, hv10, h⟩ := bindO h
          refine call_pure (F_polyglotref16_Number_ok hv10) (.cons (.p _) .nil) ?_
          refine ifO h (fun hc11 h => ?_) (fun hc11 h => ?_)
          · have hr := someO h
            subst hr
            exact (Frz.tuple' (.cons (Frz.agg' (.cons (.p _) (.cons (.p _) (.cons (.p _) (.cons (.nil _) .nil))))) (.cons (.p _) (.cons (.p _) .nil))))
          · refine chkP hk7 ?_
            obtain ⟨hk12, h⟩ := chkO h
            refine chkP hk12 ?_
            obtain ⟨hk13, h⟩ := chkO h
            refine chkP hk13 ?_
            obtain ⟨v14, hv15, h⟩ := bindO h
            refine call_pure (F_polyglotref16_Check_ok hv15) (.cons (Frz.agg' (.cons (.p _) (.cons (.p _) (.cons (.p _) (.cons (.nil _) .nil))))) .nil) ?_
            refine ifO h (fun hc16 h => ?_) (fun hc16 h => ?_)
            · refine ifT (by unfold cmpI; decide) ?_
              have hr := someO h
              subst hr
              exact (Frz.tuple' (.cons (Frz.agg' (.cons (.p _) (.cons (.p _) (.cons (.p _) (.cons (.nil _) .nil))))) (.cons (.p _) (.cons (.p _) .nil))))
            · refine ifO h (fun hc17 h => ?_) (fun hc17 h => ?_)
              · have hr := someO h
                subst hr
                exact (Frz.tuple' (.cons (Frz.agg' (.cons (.p _) (.cons (.p _) (.cons (.p _) (.cons (.nil _) .nil))))) (.cons (.p _) (.cons (.p _) .nil))))
              · have hr := someO h
                subst hr
                exact (Frz.tuple' (.cons (Frz.agg' (.cons (.p _) (.cons (.p _) (.cons (.p _) (.cons (.nil _) .nil))))) (.cons (.p _) (.cons (.p _) .nil))))
        · refine ifO h (fun hc18 h => ?_) (fun hc18 h => ?_)
          · obtain ⟨hk19, h⟩ := chkO h
            refine chkP hk19 ?_
            obtain ⟨v20, hv21, h⟩ := bindO h
            refine call_pure (F_polyglotref16_Check_ok hv21) (.cons (Frz.agg' (.cons (.p _) (.cons (.p _) (.cons (.p _) (.cons (.nil _) .nil))))) .nil) ?_
            refine ifO h (fun hc22 h => ?_) (fun hc22 h => ?_)
            · refine ifT (by unfold cmpI; decide) ?_
              have hr := someO h
              subst hr
              exact (Frz.tuple' (.cons (Frz.agg' (.cons (.p _) (.cons (.p _) (.cons (.p _) (.cons (.nil _) .nil))))) (.cons (.p _) (.cons (.p _) .nil))))
            · refine ifO h (fun hc23 h => ?_) (fun hc23 h => ?_)
              · have hr := someO h
                subst hr
                exact (Frz.tuple' (.cons (Frz.agg' (.cons (.p _) (.cons (.p _) (.cons (.p _) (.cons (.nil _) .nil))))) (.cons (.p _) (.cons (.p _) .nil))))
              · have hr := someO h
                subst hr
                exact (Frz.tuple' (.cons (Frz.agg' (.cons (.p _) (.cons (.p _) (.cons (.p _) (.cons (.nil _) .nil))))) (.cons (.p _) (.cons (.p _) .nil))))
          · refine ifO h (fun hc24 h => ?_) (fun hc24 h => ?_)
            · obtain ⟨v25, hv26, h⟩ := bindO h
              refine call_pure (F_polyglotref16_Check_ok hv26) (.cons (Frz.agg' (.cons (.p _) (.cons (.p _) (.cons (.p _) (.cons (.nil _) .nil))))) .nil) ?_
              refine ifO h (fun hc27 h => ?_) (fun hc27 h => ?_)
              · refine ifT (by unfold cmpI; decide) ?_
                have hr := someO h
                subst hr
                exact (Frz.tuple' (.cons (Frz.agg' (.cons (.p _) (.cons (.p _) (.cons (.p _) (.cons (.nil _) .nil))))) (.cons (.p _) (.cons (.p _) .nil))))
              · refine ifO h (fun hc28 h => ?_) (fun hc28 h => ?_)
                · have hr := someO h
                  subst hr
                  exact (Frz.tuple' (.cons (Frz.agg' (.cons (.p _) (.cons (.p _) (.cons (.p _) (.cons (.nil _) .nil))))) (.cons (.p _) (.cons (.p _) .nil))))
                · have hr := someO h
                  subst hr
                  exact (Frz.tuple' (.cons (Frz.agg' (.cons (.p _) (.cons (.p _) (.cons (.p _) (.cons (.nil _) .nil))))) (.cons (.p _) (.cons (.p _) .nil))))
            · refine ifO h (fun hc29 h => ?_) (fun hc29 h => ?_)
              · refine draw_rule ?_
                obtain ⟨hk30, h⟩ := chkO h
                refine chkP hk30 ?_
                obtain ⟨hk31, h⟩ := chkO h
                refine chkP hk31 ?_
                obtain ⟨v32, hv33, h⟩ := bindO h
                refine dcall_pure (F_polyglotref16_Number_ok hv33) (.cons (.p _) .nil) ?_
                obtain ⟨v34, hv35, h⟩ := bindO h
                refine dcall_pure (F_polyglotref16_whole_ok hv35) (.cons (.p _) (.cons (.p _) (.cons (.p _) .nil))) ?_
                obtain ⟨v36, hv37, h⟩ := bindO h
                refine call_pure (F_polyglotref16_Check_ok hv37) (.cons (Frz.agg' (.cons (.p _) (.cons (.p _) (.cons (.p _) (.cons (.nil _) .nil))))) .nil) ?_
                refine ifO h (fun hc38 h => ?_) (fun hc38 h => ?_)
                · refine ifT (by unfold cmpI; decide) ?_
                  have hr := someO h
                  subst hr
                  exact (Frz.tuple' (.cons (Frz.agg' (.cons (.p _) (.cons (.p _) (.cons (.p _) (.cons (.nil _) .nil))))) (.cons (.p _) (.cons (.p _) .nil))))
                · refine ifO h (fun hc39 h => ?_) (fun hc39 h => ?_)
                  · have hr := someO h
                    subst hr
                    exact (Frz.tuple' (.cons (Frz.agg' (.cons (.p _) (.cons (.p _) (.cons (.p _) (.cons (.nil _) .nil))))) (.cons (.p _) (.cons (.p _) .nil))))
                  · have hr := someO h
                    subst hr
                    exact (Frz.tuple' (.cons (Frz.agg' (.cons (.p _) (.cons (.p _) (.cons (.p _) (.cons (.nil _) .nil))))) (.cons (.p _) (.cons (.p _) .nil))))
              · obtain ⟨v40, hv41, h⟩ := bindO h
                refine call_pure (F_polyglotref16_Check_ok hv41) (.cons (Frz.agg' (.cons (.p _) (.cons (.p _) (.cons (.p _) (.cons (.nil _) .nil))))) .nil) ?_
                refine ifO h (fun hc42 h => ?_) (fun hc42 h => ?_)
                · refine ifT (by unfold cmpI; decide) ?_
                  have hr := someO h
                  subst hr
                  exact (Frz.tuple' (.cons (Frz.agg' (.cons (.p _) (.cons (.p _) (.cons (.p _) (.cons (.nil _) .nil))))) (.cons (.p _) (.cons (.p _) .nil))))
                · refine ifO h (fun hc43 h => ?_) (fun hc43 h => ?_)
                  · have hr := someO h
                    subst hr
                    exact (Frz.tuple' (.cons (Frz.agg' (.cons (.p _) (.cons (.p _) (.cons (.p _) (.cons (.nil _) .nil))))) (.cons (.p _) (.cons (.p _) .nil))))
                  · have hr := someO h
                    subst hr
                    exact (Frz.tuple' (.cons (Frz.agg' (.cons (.p _) (.cons (.p _) (.cons (.p _) (.cons (.nil _) .nil))))) (.cons (.p _) (.cons (.p _) .nil))))
def F_polyglotlaw16_AmqprimCalls (N : Nat) (code : Int) (v : SValue) (kind : Int) (s_3 : List UInt8) : Option (Bool) :=
  (F_polyglotlaw16_lives N).bind fun v1 =>
  cond (!v1)
  (some false)
  ((F_polyglotkit_LightValue N v).bind fun v4 =>
  cond (!v4)
  (some true)
  (cond (cmpI .gtr (s_3.length : Int) 600)
  (some true)
  ((F_amqprim_Of N code).bind fun v8 =>
  (F_polyglotref16_Of N code).bind fun v10 =>
  (F_polyglotkit_OwnValue N v).bind fun v12 =>
  (F_amqprim_Least N v12).bind fun v14 =>
  (F_polyglotref16_Least N v).bind fun v16 =>
  (F_polyglotkit_OwnValue N v).bind fun v18 =>
  (F_amqprim_Put N code v18).bind fun v20 =>
  (F_polyglotref16_Put N code v).bind fun v22 =>
  (F_amqprim_Get N code s_3).bind fun v24 =>
  (F_polyglotref16_Get N code s_3).bind fun v26 =>
  cond (((v8.1.Code : Int) == v10.1.Code) && (((v8.1.Kind : Int) == v10.1.Kind) && (((v8.1.Width : Int) == v10.1.Width) && (((v8.1.Sized : Bool) == v10.1.Sized) && (((v8.1.Items : Bool) == v10.1.Items) && true)))))
  (cond (v8.2 == v10.2)
  (cond (cmpI .eql v14.1 v16.1)
  (cond (cmpI .eql v14.2 v16.2)
  (cond (cmpS .eql v20.1 v22.1)
  (cond (cmpI .eql v20.2 v22.2)
  ((F_polyglotkit_SameValue N v24.1 v26.1).bind fun v34 =>
  cond v34
  (cond (cmpI .eql v24.2.1 v26.2.1)
  (cond (cmpI .eql v24.2.2 v26.2.2)
  ((F_amqprim_Codes N kind).bind fun v39 =>
  (F_polyglotref16_Codes N kind).bind fun v41 =>
  (F_polyglotkit_Same_int N v39 v41).bind fun v43 =>
  cond v43
  ((F_amqprim_Check N v).bind fun v46 =>
  (F_polyglotref16_Check N v).bind fun v48 =>
  cond (cmpI .eql v46 v48)
  ((F_amqprim_Fits N code v).bind fun v51 =>
  (F_polyglotref16_Fits N code v).bind fun v53 =>
  some (v51 == v53))
  (some false))
  (some false))
  (some false))
  (some false))
  (some false))
  (some false))
  (some false))
  (some false))
  (some false))
  (some false))
  (some false))))
theorem F_polyglotlaw16_AmqprimCalls_ok {N : Nat} {code : Int} {v : SValue} {kind : Int} {s_3 : List UInt8} {r : Bool} (h : F_polyglotlaw16_AmqprimCalls N code v kind s_3 = some r) : Pure Tryd.prog G1 7 [.int .i64 code, .agg (SValue.cells v), .int .i64 kind, .str s_3] (.bool r) := by
  refine pure_of_ev k7 ?_
  unfold F_polyglotlaw16_AmqprimCalls at h
  obtain ⟨v1, hv2, h⟩ := bindO h
  refine call_pure (F_polyglotlaw16_lives_ok hv2) .nil ?_
  refine ifO h (fun hc3 h => ?_) (fun hc3 h => ?_)
  · have hr := someO h
    subst hr
    exact (.p _)
  · obtain ⟨v4, hv5, h⟩ := bindO h
    refine call_pure (F_polyglotkit_LightValue_ok hv5) (.cons (Frz.agg' (.cons (.p _) (.cons (.p _) (.cons (.p _) (.cons (.p _) .nil))))) .nil) ?_
    refine ifO h (fun hc6 h => ?_) (fun hc6 h => ?_)
    · have hr := someO h
      subst hr
      exact (.p _)
    · refine ifO h (fun hc7 h => ?_) (fun hc7 h => ?_)
      · have hr := someO h
        subst hr
        exact (.p _)
      · obtain ⟨v8, hv9, h⟩ := bindO h
        refine call_pure (F_amqprim_Of_ok hv9) (.cons (.p _) .nil) ?_
        obtain ⟨v10, hv11, h⟩ := bindO h
        refine call_pure (F_polyglotref16_Of_ok hv11) (.cons (.p _) .nil) ?_
        obtain ⟨v12, hv13, h⟩ := bindO h
        refine call_pure (F_polyglotkit_OwnValue_ok hv13) (.cons (Frz.agg' (.cons (.p _) (.cons (.p _) (.cons (.p _) (.cons (.p _) .nil))))) .nil) ?_
        obtain ⟨v14, hv15, h⟩ := bindO h
        refine call_pure (F_amqprim_Least_ok hv15) (.cons (.p _) .nil) ?_
        obtain ⟨v16, hv17, h⟩ := bindO h
        refine call_pure (F_polyglotref16_Least_ok hv17) (.cons (Frz.agg' (.cons (.p _) (.cons (.p _) (.cons (.p _) (.cons (.p _) .nil))))) .nil) ?_
        obtain ⟨v18, hv19, h⟩ := bindO h
        refine call_pure (F_polyglotkit_OwnValue_ok hv19) (.cons (Frz.agg' (.cons (.p _) (.cons (.p _) (.cons (.p _) (.cons (.p _) .nil))))) .nil) ?_
        obtain ⟨v20, hv21, h⟩ := bindO h
        refine call_pure (F_amqprim_Put_ok hv21) (.cons (.p _) (.cons (.p _) .nil)) ?_
        obtain ⟨v22, hv23, h⟩ := bindO h
        refine call_pure (F_polyglotref16_Put_ok hv23) (.cons (.p _) (.cons (Frz.agg' (.cons (.p _) (.cons (.p _) (.cons (.p _) (.cons (.p _) .nil))))) .nil)) ?_
        obtain ⟨v24, hv25, h⟩ := bindO h
        refine call_pure (F_amqprim_Get_ok hv25) (.cons (.p _) (.cons (.p _) .nil)) ?_
        obtain ⟨v26, hv27, h⟩ := bindO h
        refine call_pure (F_polyglotref16_Get_ok hv27) (.cons (.p _) (.cons (.p _) .nil)) ?_
        refine draw_rule ?_
        refine ifO h (fun hc28 h => ?_) (fun hc28 h => ?_)
        · refine ifO h (fun hc29 h => ?_) (fun hc29 h => ?_)
          · refine ifO h (fun hc30 h => ?_) (fun hc30 h => ?_)
            · refine ifO h (fun hc31 h => ?_) (fun hc31 h => ?_)
              · refine ifO h (fun hc32 h => ?_) (fun hc32 h => ?_)
                · refine ifO h (fun hc33 h => ?_) (fun hc33 h => ?_)
                  · obtain ⟨v34, hv35, h⟩ := bindO h
                    refine dcall_pure (F_polyglotkit_SameValue_ok hv35) (.cons (Frz.agg' (.cons (.p _) (.cons (.p _) (.cons (.p _) (.cons (.p _) .nil))))) (.cons (Frz.agg' (.cons (.p _) (.cons (.p _) (.cons (.p _) (.cons (.p _) .nil))))) .nil)) ?_
                    refine ifO h (fun hc36 h => ?_) (fun hc36 h => ?_)
                    · refine ifO h (fun hc37 h => ?_) (fun hc37 h => ?_)
                      · refine ifO h (fun hc38 h => ?_) (fun hc38 h => ?_)
                        · obtain ⟨v39, hv40, h⟩ := bindO h
                          refine dcall_pure (F_amqprim_Codes_ok hv40) (.cons (.p _) .nil) ?_
                          obtain ⟨v41, hv42, h⟩ := bindO h
                          refine dcall_pure (F_polyglotref16_Codes_ok hv42) (.cons (.p _) .nil) ?_
                          obtain ⟨v43, hv44, h⟩ := bindO h
                          refine dcall_pure (F_polyglotkit_Same_int_ok hv44) (.cons (.p _) (.cons (.p _) .nil)) ?_
                          refine ifO h (fun hc45 h => ?_) (fun hc45 h => ?_)
                          · obtain ⟨v46, hv47, h⟩ := bindO h
                            refine dcall_pure (F_amqprim_Check_ok hv47) (.cons (Frz.agg' (.cons (.p _) (.cons (.p _) (.cons (.p _) (.cons (.p _) .nil))))) .nil) ?_
                            obtain ⟨v48, hv49, h⟩ := bindO h
                            refine dcall_pure (F_polyglotref16_Check_ok hv49) (.cons (Frz.agg' (.cons (.p _) (.cons (.p _) (.cons (.p _) (.cons (.p _) .nil))))) .nil) ?_
                            refine ifO h (fun hc50 h => ?_) (fun hc50 h => ?_)
                            · obtain ⟨v51, hv52, h⟩ := bindO h
                              refine dcall_pure (F_amqprim_Fits_ok hv52) (.cons (.p _) (.cons (Frz.agg' (.cons (.p _) (.cons (.p _) (.cons (.p _) (.cons (.p _) .nil))))) .nil)) ?_
                              obtain ⟨v53, hv54, h⟩ := bindO h
                              refine dcall_pure (F_polyglotref16_Fits_ok hv54) (.cons (.p _) (.cons (Frz.agg' (.cons (.p _) (.cons (.p _) (.cons (.p _) (.cons (.p _) .nil))))) .nil)) ?_
                              have hr := someO h
                              subst hr
                              exact (.p _)
                            · have hr := someO h
                              subst hr
                              exact (.p _)
                          · have hr := someO h
                            subst hr
                            exact (.p _)
                        · have hr := someO h
                          subst hr
                          exact (.p _)
                      · have hr := someO h
                        subst hr
                        exact (.p _)
                    · have hr := someO h
                      subst hr
                      exact (.p _)
                  · have hr := someO h
                    subst hr
                    exact (.p _)
                · have hr := someO h
                  subst hr
                  exact (.p _)
              · have hr := someO h
                subst hr
                exact (.p _)
            · have hr := someO h
              subst hr
              exact (.p _)
          · have hr := someO h
            subst hr
            exact (.p _)
        · have hr := someO h
          subst hr
          exact (.p _)
end
end
end Go.Av
